import PyProof.Rows.All
import Wide.All
import OpenK.AllK
import Wide.FinOn
import HandS.ForMost
import HandS.ForExc
import HandS.Style
import HandS.TupLe
import HandS.TupAny
import HandS.IsInst
import HandS.SetKeys
import HandS.StrMore
import HandS.Deep
import HandS.Wide
import HandS.Zip
import HandS.Strs
import HandS.More
import HandS.DictComp
import HandS.ListItems
import PySem.Challenge.RW_mailmerge_k06_whole_difference
set_option Elab.async false
set_option maxRecDepth 100000
set_option maxHeartbeats 4000000
set_option autoImplicit false
set_option linter.all false
/-! DA: data (D), what represents it in the abstract heap, slots, states, results; the judgements of the data layer -/
namespace DL
open PySem L2

/-- a datum: a value with what it is made of -/
inductive D where
  | non | bl (b : Bool) | int (i : Int) | str (s : List Nat)
  | tup (xs : List D) | lst (xs : List D) | dic (t : Nat) (kvs : List (D × D)) | op (v : V) | scr (ns : List Int) | ktup (xs : List D)
mutual
def D.beq : D → D → Bool
  | .non, .non => true
  | .bl a, .bl b => a == b
  | .int a, .int b => decide (a = b)
  | .str a, .str b => decide (a = b)
  | .tup a, .tup b => D.beqL a b
  | .lst a, .lst b => D.beqL a b
  | .ktup a, .ktup b => D.beqL a b
  | .dic s a, .dic t b => decide (s = t) && D.beqK a b
  | .op a, .op b => decide (a = b)
  | .scr a, .scr b => decide (a = b)
  | _, _ => false
def D.beqL : List D → List D → Bool
  | [], [] => true
  | a :: r, b :: s => D.beq a b && D.beqL r s
  | _, _ => false
def D.beqK : List (D × D) → List (D × D) → Bool
  | [], [] => true
  | (a, b) :: r, (c, d) :: s => D.beq a c && D.beq b d && D.beqK r s
  | _, _ => false
end

def sv (s : List Nat) : Str := ⟨s.toArray⟩
def Ln : Nat := 16777216
theorem Ln_eq : sizeLine = Ln := by rw [sizeLine_eq]; rfl
theorem sv_length (s : List Nat) : (sv s).length = s.length := by simp [sv, Str.length]
theorem sv_list (s : List Nat) : (sv s).cps.toList = s := by simp [sv]
theorem sv_of (x : Str) : sv x.cps.toList = x := by cases x; simp [sv]
def okS (s : List Nat) : Bool := decide (s.length ≤ Ln) && s.all fun c => decide (c < 128)
/-! ### dicts as pairs -/
def dget (kvs : List (D × D)) (k : D) : Option D := (kvs.find? fun kv => kv.1.beq k).map (·.2)
def dput (kvs : List (D × D)) (k v : D) : List (D × D) := if kvs.any (fun kv => kv.1.beq k) then kvs.map (fun kv => if kv.1.beq k then (kv.1, v) else kv) else kvs ++ [(k, v)]
theorem okS_len {s : List Nat} (h : okS s = true) : s.length ≤ Ln := by
  unfold okS at h; simp only [Bool.and_eq_true, decide_eq_true_eq] at h; exact h.1
theorem okS_asc {s : List Nat} (h : okS s = true) : ∀ c ∈ s, c < 128 := by
  unfold okS at h; simp only [Bool.and_eq_true, List.all_eq_true, decide_eq_true_eq] at h; exact h.2
theorem okS_mk {s : List Nat} (h : s.length ≤ Ln) (g : ∀ c ∈ s, c < 128) : okS s = true := by
  unfold okS; simp only [Bool.and_eq_true, List.all_eq_true, decide_eq_true_eq]; exact ⟨h, g⟩
theorem sv_inj {a b : List Nat} (h : sv a = sv b) : a = b := by rw [← sv_list a, ← sv_list b, h]

def keyD : Key → D
  | .inl i => .int i
  | .inr s => .str s.cps.toList
theorem keyD_inj {a b : Key} (h : keyD a = keyD b) : a = b := by
  cases a with
  | inl i => cases b with
    | inl j => simp only [keyD, D.int.injEq] at h; rw [h]
    | inr t => simp [keyD] at h
  | inr s => cases b with
    | inl j => simp [keyD] at h
    | inr t => simp only [keyD, D.str.injEq] at h; rw [← sv_of s, ← sv_of t, h]

/-! ### the heap without what is owned -/
def hide (H : Hp) (O : Addr → Bool) : Hp := fun a => if O a = true then none else H a
theorem hide_of {H : Hp} {O : Addr → Bool} {a : Addr} {o : HO} (h : hide H O a = some o) : H a = some o ∧ O a = false := by
  unfold hide at h
  cases e : O a with
  | true => rw [e] at h; simp at h
  | false => rw [e] at h; simp at h; exact ⟨h, rfl⟩
theorem hide_mk {H : Hp} {O : Addr → Bool} {a : Addr} {o : HO} (h : H a = some o) (e : O a = false) : hide H O a = some o := by
  unfold hide; rw [e]; simpa using h
def NF (u : HO) : Prop := ∀ o w, u ≠ .frz o w
/-- all that was to be read is to be read -/
structure SameR (H H' : Hp) : Prop where
  rd : ∀ a u, NF u → Rd H a u → Rd H' a u
  ls : ∀ a xs, H a = some (.lst xs) → H' a = some (.lst xs)
  tp : ∀ a xs, H a = some (.tup xs) → H' a = some (.tup xs)
theorem SameR.refl (H : Hp) : SameR H H := ⟨fun _ _ _ h => h, fun _ _ h => h, fun _ _ h => h⟩
theorem SameR.trans {H H1 H2 : Hp} (a : SameR H H1) (b : SameR H1 H2) : SameR H H2 := ⟨fun x u n h => b.rd x u n (a.rd x u n h), fun x u h => b.ls x u (a.ls x u h), fun x u h => b.tp x u (a.tp x u h)⟩
theorem SameR.of {H H' : Hp} (s : Same H H') : SameR H H' := ⟨fun a u _ h => by
  rcases h with h | ⟨o, h⟩
  · exact .inl (s _ _ h)
  · exact .inr ⟨o, s _ _ h⟩, fun a xs h => s _ _ h, fun a xs h => s _ _ h⟩
theorem same_weak {H : Hp} {O O' : Addr → Bool} (h : ∀ a, O' a = true → O a = true) : Same (hide H O) (hide H O') := fun a o e => by
  obtain ⟨h1, h2⟩ := hide_of e
  refine hide_mk h1 ?_
  cases q : O' a with
  | false => rfl
  | true => rw [h a q] at h2; cases h2
theorem SameR.hide_weak {H : Hp} {O O' : Addr → Bool} (h : ∀ a, O' a = true → O a = true) : SameR (hide H O) (hide H O') := SameR.of fun a o e => by
  obtain ⟨e1, e2⟩ := hide_of e
  refine hide_mk e1 ?_
  cases q : O' a with
  | false => rfl
  | true => rw [h a q] at e2; cases e2

theorem SameR.hide_all {H : Hp} {O : Addr → Bool} : SameR (hide H O) H := SameR.of fun a o e => (hide_of e).1
theorem nf_lst {xs : List V} : NF (.lst xs) := fun _ _ h => nomatch h
theorem nf_tup {xs : List V} : NF (.tup xs) := fun _ _ h => nomatch h
theorem nf_dK {xs : List (Key × V)} : NF (.dK xs) := fun _ _ h => nomatch h
theorem nf_dT {xs : List (List Key × V)} : NF (.dT xs) := fun _ _ h => nomatch h

/-! ### representation -/
mutual
def Rep (K : PySem.W.Frag) (H : Hp) : D → V → Prop
  | .non, v => v = .non
  | .bl b, v => v = .bl b
  | .int i, v => v = .int i
  | .str s, v => v = .str (sv s) ∧ okS s = true
  | .tup ds, v => ∃ a xs, v = .ref a ∧ H a = some (.tup xs) ∧ RepL K H ds xs ∧ ds.length ≤ Ln
  | .ktup ds, v => ∃ a xs, v = .ref a ∧ SqT K H a xs ∧ RepL K H ds xs ∧ ds.length ≤ Ln
  | .lst ds, v => ∃ a xs, v = .ref a ∧ H a = some (.lst xs) ∧ RepL K H ds xs ∧ ds.length ≤ Ln
  | .dic t kvs, v => ∃ a, v = .ref a ∧ kvs.length ≤ Ln ∧ ((t = 0 ∧ ∃ ks, Rd H a (.dK ks) ∧ RepK K H kvs ks) ∨ (t = 1 ∧ ∃ ks, Rd H a (.dT ks) ∧ RepT K H kvs ks))
  | .op w, v => v = w
  | .scr ns, v => ∃ a, v = .ref a ∧ SqL K H a (ns.map V.int) ∧ ns.length ≤ 63
def RepL (K : PySem.W.Frag) (H : Hp) : List D → List V → Prop
  | [], xs => xs = []
  | d :: r, xs => ∃ x s, xs = x :: s ∧ Rep K H d x ∧ RepL K H r s
def RepK (K : PySem.W.Frag) (H : Hp) : List (D × D) → List (Key × V) → Prop
  | [], xs => xs = []
  | (k, d) :: r, xs => ∃ q x s, xs = (q, x) :: s ∧ k = keyD q ∧ Rep K H d x ∧ RepK K H r s
def RepT (K : PySem.W.Frag) (H : Hp) : List (D × D) → List (List Key × V) → Prop
  | [], xs => xs = []
  | (k, d) :: r, xs => ∃ q x s, xs = (q, x) :: s ∧ k = .tup (q.map keyD) ∧ Rep K H d x ∧ RepT K H r s
end

section
variable {K : PySem.W.Frag} {H H' : Hp}
theorem SqT.monoR {a : Addr} {xs : List V} (s : SameR H H') (h : SqT K H a xs) : SqT K H' a xs := h.elim (fun q => .inl (s.rd _ _ nf_tup q)) .inr
mutual
theorem Rep.mono (s : SameR H H') : ∀ (d : D) (v : V), Rep K H d v → Rep K H' d v
  | .non, _, h => h
  | .bl _, _, h => h
  | .int _, _, h => h
  | .str _, _, h => h
  | .op _, _, h => h
  | .scr ns, v, h => by
    unfold Rep at h ⊢
    obtain ⟨a, e, q, l⟩ := h
    exact ⟨a, e, q.elim (fun q => .inl (s.rd _ _ nf_lst q)) .inr, l⟩
  | .tup ds, v, h => by
    unfold Rep at h ⊢
    obtain ⟨a, xs, e, q, r, l⟩ := h
    exact ⟨a, xs, e, s.tp a xs q, RepL.mono s ds xs r, l⟩
  | .ktup ds, v, h => by
    unfold Rep at h ⊢
    obtain ⟨a, xs, e, q, r, l⟩ := h
    exact ⟨a, xs, e, SqT.monoR s q, RepL.mono s ds xs r, l⟩
  | .lst ds, v, h => by
    unfold Rep at h ⊢
    obtain ⟨a, xs, e, q, r, l⟩ := h
    exact ⟨a, xs, e, s.ls a xs q, RepL.mono s ds xs r, l⟩
  | .dic t kvs, v, h => by
    unfold Rep at h ⊢
    obtain ⟨a, e, l, h⟩ := h
    refine ⟨a, e, l, ?_⟩
    rcases h with ⟨z, ks, q, r⟩ | ⟨z, ks, q, r⟩
    · exact .inl ⟨z, ks, s.rd _ _ nf_dK q, RepK.mono s kvs ks r⟩
    · exact .inr ⟨z, ks, s.rd _ _ nf_dT q, RepT.mono s kvs ks r⟩
theorem RepL.mono (s : SameR H H') : ∀ (ds : List D) (xs : List V), RepL K H ds xs → RepL K H' ds xs
  | [], _, h => by unfold RepL at h ⊢; exact h
  | d :: r, xs, h => by
    unfold RepL at h ⊢
    obtain ⟨x, t, e, h1, h2⟩ := h
    exact ⟨x, t, e, Rep.mono s d x h1, RepL.mono s r t h2⟩
theorem RepK.mono (s : SameR H H') : ∀ (ds : List (D × D)) (xs : List (Key × V)), RepK K H ds xs → RepK K H' ds xs
  | [], _, h => by unfold RepK at h ⊢; exact h
  | (k, d) :: r, xs, h => by
    unfold RepK at h ⊢
    obtain ⟨q, x, t, e, h0, h1, h2⟩ := h
    exact ⟨q, x, t, e, h0, Rep.mono s d x h1, RepK.mono s r t h2⟩
theorem RepT.mono (s : SameR H H') : ∀ (ds : List (D × D)) (xs : List (List Key × V)), RepT K H ds xs → RepT K H' ds xs
  | [], _, h => by unfold RepT at h ⊢; exact h
  | (k, d) :: r, xs, h => by
    unfold RepT at h ⊢
    obtain ⟨q, x, t, e, h0, h1, h2⟩ := h
    exact ⟨q, x, t, e, h0, Rep.mono s d x h1, RepT.mono s r t h2⟩
end

theorem RepL.length : ∀ {ds : List D} {xs : List V}, RepL K H ds xs → xs.length = ds.length
  | [], _, h => by unfold RepL at h; subst h; rfl
  | d :: r, xs, h => by
    unfold RepL at h
    obtain ⟨x, t, e, _, h2⟩ := h
    subst e
    simp [RepL.length h2]
theorem RepL.get : ∀ {ds : List D} {xs : List V} {i : Nat} {d : D}, RepL K H ds xs → ds[i]? = some d → ∃ x, xs[i]? = some x ∧ Rep K H d x
  | [], _, _, _, _, e => by simp at e
  | d :: r, xs, i, d', h, e => by
    unfold RepL at h
    obtain ⟨x, t, rfl, h1, h2⟩ := h
    cases i with
    | zero => simp at e; subst e; exact ⟨x, rfl, h1⟩
    | succ i => obtain ⟨y, e1, e2⟩ := RepL.get h2 (by simpa using e); exact ⟨y, by simpa using e1, e2⟩
theorem RepL.getV {ds : List D} {xs : List V} {i : Nat} {x : V} (h : RepL K H ds xs) (e : xs[i]? = some x) : ∃ d, ds[i]? = some d ∧ Rep K H d x := by
  have hl := h.length
  have hi : i < ds.length := by rw [← hl]; exact (List.getElem?_eq_some_iff.mp e).1
  obtain ⟨y, e1, e2⟩ := h.get (i := i) (d := ds[i]) (List.getElem?_eq_getElem hi)
  rw [e] at e1; cases e1
  exact ⟨_, List.getElem?_eq_getElem hi, e2⟩
theorem RepL.append : ∀ {a b : List D} {xs ys : List V}, RepL K H a xs → RepL K H b ys → RepL K H (a ++ b) (xs ++ ys)
  | [], _, _, _, h, g => by unfold RepL at h; subst h; exact g
  | d :: r, b, xs, ys, h, g => by
    unfold RepL at h
    obtain ⟨x, t, rfl, h1, h2⟩ := h
    show RepL K H (d :: (r ++ b)) (x :: (t ++ ys))
    unfold RepL
    exact ⟨x, t ++ ys, rfl, h1, RepL.append h2 g⟩
theorem RepL.one {d : D} {x : V} (h : Rep K H d x) : RepL K H [d] [x] := by unfold RepL; exact ⟨x, [], rfl, h, by unfold RepL; rfl⟩
theorem RepL.nil : RepL K H [] [] := by unfold RepL; rfl
theorem RepL.cons {d : D} {x : V} {ds : List D} {xs : List V} (h : Rep K H d x) (t : RepL K H ds xs) : RepL K H (d :: ds) (x :: xs) := by unfold RepL; exact ⟨x, xs, rfl, h, t⟩
theorem RepL.take : ∀ {ds : List D} {xs : List V} (n : Nat), RepL K H ds xs → RepL K H (ds.take n) (xs.take n)
  | _, _, 0, _ => by simpa using RepL.nil
  | [], xs, n + 1, h => by unfold RepL at h; subst h; simpa using RepL.nil
  | d :: r, xs, n + 1, h => by
    unfold RepL at h
    obtain ⟨x, t, rfl, h1, h2⟩ := h
    simpa using RepL.cons h1 (RepL.take n h2)
theorem RepL.drop : ∀ {ds : List D} {xs : List V} (n : Nat), RepL K H ds xs → RepL K H (ds.drop n) (xs.drop n)
  | _, _, 0, h => by simpa using h
  | [], xs, n + 1, h => by unfold RepL at h; subst h; simpa using RepL.nil
  | d :: r, xs, n + 1, h => by
    unfold RepL at h
    obtain ⟨x, t, rfl, h1, h2⟩ := h
    simpa using RepL.drop n h2
theorem RepL.set : ∀ {ds : List D} {xs : List V} {d : D} {x : V} (n : Nat), Rep K H d x → RepL K H ds xs → RepL K H (ds.set n d) (xs.set n x)
  | [], xs, _, _, n, _, h => by unfold RepL at h; subst h; simpa using RepL.nil
  | d :: r, xs, d', x', 0, g, h => by
    unfold RepL at h
    obtain ⟨x, t, rfl, h1, h2⟩ := h
    simpa using RepL.cons g h2
  | d :: r, xs, d', x', n + 1, g, h => by
    unfold RepL at h
    obtain ⟨x, t, rfl, h1, h2⟩ := h
    simpa using RepL.cons h1 (RepL.set n g h2)
theorem RepL.reverse : ∀ {ds : List D} {xs : List V}, RepL K H ds xs → RepL K H ds.reverse xs.reverse
  | [], xs, h => by unfold RepL at h; subst h; simpa using RepL.nil
  | d :: r, xs, h => by
    unfold RepL at h
    obtain ⟨x, t, rfl, h1, h2⟩ := h
    simpa using RepL.append (RepL.reverse h2) (RepL.one h1)
theorem RepK.length : ∀ {ds : List (D × D)} {xs : List (Key × V)}, RepK K H ds xs → xs.length = ds.length
  | [], _, h => by unfold RepK at h; subst h; rfl
  | (k, d) :: r, xs, h => by
    unfold RepK at h
    obtain ⟨q, x, t, e, _, _, h2⟩ := h
    subst e
    simp [RepK.length h2]
theorem RepT.length : ∀ {ds : List (D × D)} {xs : List (List Key × V)}, RepT K H ds xs → xs.length = ds.length
  | [], _, h => by unfold RepT at h; subst h; rfl
  | (k, d) :: r, xs, h => by
    unfold RepT at h
    obtain ⟨q, x, t, e, _, _, h2⟩ := h
    subst e
    simp [RepT.length h2]
end

/-! ### contents that one name owns; slots -/
inductive Ct where
  | l (xs : List D) | d (t : Nat) (kvs : List (D × D)) | i (c : Nat) (fs : List (Str × D))
inductive Sl where
  | emp | val (d : D) | own (c : Ct)
abbrev DS := List Sl
inductive R (α : Type) where
  | stuck | ok (a : α) | exc (c : Nat) (ds : DS)
def R.bind {α β : Type} : R α → (α → R β) → R β
  | .stuck, _ => .stuck
  | .ok a, f => f a
  | .exc c ds, _ => .exc c ds
@[simp] theorem R.bind_ok {α β : Type} (a : α) (f : α → R β) : (R.ok a).bind f = f a := rfl
@[simp] theorem R.bind_stuck {α β : Type} (f : α → R β) : (R.stuck : R α).bind f = .stuck := rfl
@[simp] theorem R.bind_exc {α β : Type} (c : Nat) (ds : DS) (f : α → R β) : (R.exc c ds : R α).bind f = .exc c ds := rfl

def RepF (K : PySem.W.Frag) (H : Hp) : List (Str × D) → List (Str × V) → Prop
  | [], xs => xs = []
  | (k, d) :: r, xs => ∃ x s, xs = (k, x) :: s ∧ Rep K H d x ∧ RepF K H r s
theorem RepF.mono {K : PySem.W.Frag} {H H' : Hp} (s : SameR H H') : ∀ (ds : List (Str × D)) (xs : List (Str × V)), RepF K H ds xs → RepF K H' ds xs
  | [], _, h => h
  | (k, d) :: r, xs, h => by
    obtain ⟨x, t, e, h1, h2⟩ := h
    exact ⟨x, t, e, Rep.mono s d x h1, RepF.mono s r t h2⟩
theorem RepF.lookup {K : PySem.W.Frag} {H : Hp} {f : Str} : ∀ {ds : List (Str × D)} {xs : List (Str × V)}, RepF K H ds xs → ∀ {d : D}, ds.lookup f = some d → ∃ x, xs.lookup f = some x ∧ Rep K H d x
  | [], _, h, d, e => by simp at e
  | (k, d0) :: r, xs, h, d, e => by
    obtain ⟨x, t, rfl, h1, h2⟩ := h
    rw [List.lookup_cons] at e ⊢
    cases q : (f == k) with
    | true => rw [q] at e; simp only [Option.some.injEq] at e; subst e; exact ⟨x, rfl, h1⟩
    | false => rw [q] at e; simp only at e; exact RepF.lookup h2 e
theorem RepF.none {K : PySem.W.Frag} {H : Hp} {f : Str} : ∀ {ds : List (Str × D)} {xs : List (Str × V)}, RepF K H ds xs → ds.lookup f = none → xs.lookup f = none
  | [], _, h, e => by cases h; rfl
  | (k, d0) :: r, xs, h, e => by
    obtain ⟨x, t, rfl, h1, h2⟩ := h
    rw [List.lookup_cons] at e ⊢
    cases q : (f == k) with
    | true => rw [q] at e; simp at e
    | false => rw [q] at e; simp only at e; exact RepF.none h2 e
theorem RepF.length {K : PySem.W.Frag} {H : Hp} : ∀ {ds : List (Str × D)} {xs : List (Str × V)}, RepF K H ds xs → xs.length = ds.length
  | [], _, h => by cases h; rfl
  | (k, d0) :: r, xs, h => by
    obtain ⟨x, t, rfl, h1, h2⟩ := h
    simp [RepF.length h2]

/-- the content as an object at an address -/
def CtR (K : PySem.W.Frag) (cm : Nat → Addr) (H : Hp) : Ct → HO → Prop
  | .l ds, o => ∃ xs, o = .lst xs ∧ RepL K H ds xs ∧ ds.length ≤ Ln
  | .d t kvs, o => kvs.length ≤ Ln ∧ ((t = 0 ∧ ∃ ks, o = .dK ks ∧ RepK K H kvs ks) ∨ (t = 1 ∧ ∃ ks, o = .dT ks ∧ RepT K H kvs ks))
  | .i c fs, o => ∃ dx gs, o = .ins (cm c) dx gs ∧ RepF K H fs gs
theorem CtR.mono {K : PySem.W.Frag} {cm : Nat → Addr} {H H' : Hp} (s : SameR H H') {c : Ct} {o : HO} (h : CtR K cm H c o) : CtR K cm H' c o := by
  cases c with
  | l ds => obtain ⟨xs, e, r, l⟩ := h; exact ⟨xs, e, RepL.mono s _ _ r, l⟩
  | d t kvs =>
    obtain ⟨l, h⟩ := h
    refine ⟨l, ?_⟩
    rcases h with ⟨z, ks, e, r⟩ | ⟨z, ks, e, r⟩
    · exact .inl ⟨z, ks, e, RepK.mono s _ _ r⟩
    · exact .inr ⟨z, ks, e, RepT.mono s _ _ r⟩
  | i c fs => obtain ⟨dx, gs, e, r⟩ := h; exact ⟨dx, gs, e, RepF.mono s _ _ r⟩

def SlR (K : PySem.W.Frag) (cm : Nat → Addr) (B O : Addr → Bool) (H : Hp) (ov : Option (Option V)) : Sl → Prop
  | .emp => True
  | .val d => ∃ v, ov = some (some v) ∧ Rep K (hide H O) d v
  | .own c => ∃ p o, ov = some (some (.ref p)) ∧ O p = true ∧ B p = false ∧ H p = some o ∧ CtR K cm (hide H O) c o

/-- what is known of a body: the classes' addresses, the places of the parameters that it was lent -/
structure Gx where
  cm : Nat → Addr
  ps : List Nat
/-- what stays through a body: what its callers own, the parameters that it was lent, the heap at its entry -/
structure Bx where
  B : Addr → Bool
  P : List (Nat × Addr)
  H0 : Hp
/-- the state of a body: O all that is owned -/
structure DI (K : PySem.W.Frag) (G : Gx) (b : Bx) (O : Addr → Bool) (H : Hp) (σ : St) (ds : DS) : Prop where
  len : σ.length = ds.length
  slot : ∀ (i : Nat) (s : Sl), ds[i]? = some s → SlR K G.cm b.B O H (σ[i]?) s
  sep : ∀ (i j : Nat) (ci cj : Ct) (p : Addr), ds[i]? = some (.own ci) → ds[j]? = some (.own cj) → σ[i]? = some (some (.ref p)) → σ[j]? = some (some (.ref p)) → i = j
  sub : ∀ a, b.B a = true → O a = true
  pin : ∀ q ∈ b.P, σ[q.1]? = some (some (.ref q.2)) ∧ ∃ c, ds[q.1]? = some (.own c)
  pidx : b.P.map (·.1) = G.ps
  trk : ∀ a, O a = true → H a ≠ none
  new : ∀ a, O a = true → b.B a = true ∨ a ∈ b.P.map (·.2) ∨ b.H0 a = none
  ent : ∀ a, H a = none → b.H0 a = none
/-- from one state to a later one -/
structure Ext (b : Bx) (H : Hp) (O : Addr → Bool) (H' : Hp) (O' : Addr → Bool) : Prop where
  keep : ∀ a, b.B a = true → H' a = H a
  sm : Same (hide H O) (hide H' O')
  non : ∀ a, H' a = none → H a = none
  fz : ∀ a o u, H a = some (.frz o u) → H' a = some (.frz o u)
theorem Ext.same {b : Bx} {H H' : Hp} {O O' : Addr → Bool} (x : Ext b H O H' O') : SameR (hide H O) (hide H' O') := SameR.of x.sm
theorem Ext.refl {b : Bx} {H : Hp} {O : Addr → Bool} : Ext b H O H O := ⟨fun _ _ => rfl, Same.refl _, fun _ h => h, fun _ _ _ h => h⟩
theorem Ext.trans {b : Bx} {H H1 H2 : Hp} {O O1 O2 : Addr → Bool} (a : Ext b H O H1 O1) (c : Ext b H1 O1 H2 O2) : Ext b H O H2 O2 :=
  ⟨fun x h => (c.keep x h).trans (a.keep x h), a.sm.trans c.sm, fun x h => a.non x (c.non x h), fun x o u h => c.fz x o u (a.fz x o u h)⟩

/-- nothing is changed, something may be new -/
theorem hide_same {H H' : Hp} (s : Same H H') (O : Addr → Bool) : Same (hide H O) (hide H' O) := fun a o h => by
  obtain ⟨h1, h2⟩ := hide_of h
  exact hide_mk (s a o h1) h2
theorem Ext.new {K : PySem.W.Frag} {G : Gx} {b : Bx} {O : Addr → Bool} {H H' : Hp} {σ : St} {ds : DS} (I : DI K G b O H σ ds) (s : Same H H') : Ext b H O H' O :=
  ⟨fun a h => by
    cases e : H a with
    | none => exact absurd e (I.trk a (I.sub a h))
    | some o => exact s a o e, hide_same s O, fun a h => s.free h, fun a o u h => s _ _ h⟩
theorem SlR.mono {K : PySem.W.Frag} {cm : Nat → Addr} {B O : Addr → Bool} {H H' : Hp} {ov : Option (Option V)} {s : Sl} (h : SlR K cm B O H ov s) (same : SameR (hide H O) (hide H' O)) (k : ∀ a o, O a = true → B a = false → H a = some o → H' a = some o) : SlR K cm B O H' ov s := by
  cases s with
  | emp => trivial
  | val d => obtain ⟨v, e, r⟩ := h; exact ⟨v, e, Rep.mono same _ _ r⟩
  | own c => obtain ⟨p, o, e, h1, h2, h3, h4⟩ := h; exact ⟨p, o, e, h1, h2, k p o h1 h2 h3, h4.mono same⟩
/-- behind a step that made new things only -/
theorem DI.new' {K : PySem.W.Frag} {G : Gx} {b : Bx} {O : Addr → Bool} {H H' : Hp} {σ : St} {ds : DS} (I : DI K G b O H σ ds) (s : Same H H') : DI K G b O H' σ ds :=
  ⟨I.len, fun i x h => (I.slot i x h).mono (SameR.of (hide_same s O)) fun a o _ _ e => s a o e, I.sep, I.sub, I.pin, I.pidx, fun a h e => I.trk a h (s.free e), I.new, fun a h => I.ent a (s.free h)⟩

/-! ### the judgements -/
section
variable (K : PySem.W.Frag) (G : Gx) (b : Bx) (W : WX)
def EPost {α β : Type} (rel : Hp → α → β → Prop) (H : Hp) (O : Addr → Bool) (σ : St) (Q : β → Hp → Prop) : R (α × DS) → Prop
  | .stuck => False
  | .ok (d, ds') => ∀ v H' O', DI K G b O' H' σ ds' → Ext b H O H' O' → rel (hide H' O') d v → Q v H'
  | .exc c ds' => ∀ x H' O', DI K G b O' H' σ ds' → Ext b H O H' O' → W (.ref (G.cm c)) x σ H'
end
theorem EPost.step {K : PySem.W.Frag} {G : Gx} {b : Bx} {W : WX} {α β : Type} {rel : Hp → α → β → Prop} {H H1 : Hp} {O O1 : Addr → Bool} {σ : St} {Q : β → Hp → Prop} {r : R (α × DS)}
    (h : EPost K G b W rel H O σ Q r) (x : Ext b H O H1 O1) : EPost K G b W rel H1 O1 σ Q r := by
  match r, h with
  | .ok (d, ds'), h => exact fun v H' O' I e q => h v H' O' I (x.trans e) q
  | .exc c ds', h => exact fun y H' O' I e => h y H' O' I (x.trans e)

abbrev relE (K : PySem.W.Frag) : Hp → D → V → Prop := fun H d v => Rep K H d v
abbrev relB : Hp → Bool → Bool → Prop := fun _ b c => b = c
structure ED (X : Cx) (W : WX) (G : Gx) (e : Expr) (f : DS → R (D × DS)) : Prop where
  ex : ∃ t, PE X e t ∧ ∀ b O H σ ds Q, DI X.K G b O H σ ds → EPost X.K G b W (relE X.K) H O σ Q (f ds) → t σ H Q
structure TD (X : Cx) (W : WX) (G : Gx) (e : Expr) (f : DS → R (Bool × DS)) : Prop where
  ex : ∃ t, PT X e t ∧ ∀ b O H σ ds Q, DI X.K G b O H σ ds → EPost X.K G b W relB H O σ Q (f ds) → t σ H Q
/-- a test whatever its 'whole' is -/
structure TWD (X : Cx) (W : WX) (G : Gx) (e : Expr) (f : DS → R (Bool × DS)) : Prop where
  ex : ∃ t, PW X e t ∧ ∀ b O H σ ds Q, DI X.K G b O H σ ds → EPost X.K G b W relB H O σ Q (f ds) → t σ H Q
structure AD (X : Cx) (W : WX) (G : Gx) (es : List Expr) (f : DS → R (List D × DS)) : Prop where
  ex : ∃ t, PA X es t ∧ ∀ b O H σ ds Q, DI X.K G b O H σ ds → EPost X.K G b W (RepL X.K) H O σ Q (f ds) → t σ H Q

/-- one step, then the rest -/
theorem EPost.bind {K : PySem.W.Frag} {G : Gx} {b : Bx} {W : WX} {α β γ δ : Type} {rel : Hp → α → β → Prop} {rel' : Hp → γ → δ → Prop} {H : Hp} {O : Addr → Bool} {σ : St} {Q : β → Hp → Prop} {Q' : δ → Hp → Prop} {r : R (α × DS)} {f : α × DS → R (γ × DS)}
    (h : EPost K G b W rel' H O σ Q' (r.bind f)) (k : ∀ d ds' v H' O', r = .ok (d, ds') → DI K G b O' H' σ ds' → Ext b H O H' O' → rel (hide H' O') d v → EPost K G b W rel' H' O' σ Q' (f (d, ds')) → Q v H') : EPost K G b W rel H O σ Q r := by
  match r, h with
  | .ok (d, ds'), h => exact fun v H' O' I e q => k d ds' v H' O' rfl I e q (h.step e)
  | .exc c ds', h => exact h
end DL

/-! DB: expressions of the data layer -/
namespace DL
open PySem L2

def lft {α : Type} (o : Option α) (ds : DS) : R (α × DS) := match o with
  | some d => .ok (d, ds)
  | none => .stuck
@[simp] theorem lft_some {α : Type} (a : α) (ds : DS) : lft (some a) ds = .ok (a, ds) := rfl
@[simp] theorem lft_none {α : Type} (ds : DS) : lft (none : Option α) ds = .stuck := rfl

section
variable {K : PySem.W.Frag} {G : Gx} {b : Bx} {W : WX} {H : Hp} {O : Addr → Bool} {σ : L2.St} {ds : DS}
/-- a step's end: a value without a change -/
theorem EPost.done {α β : Type} {rel : Hp → α → β → Prop} {Q : β → Hp → Prop} {d : α} {v : β} (h : EPost K G b W rel H O σ Q (.ok (d, ds))) (I : DI K G b O H σ ds) (r : rel (hide H O) d v) : Q v H := h v H O I Ext.refl r
/-- .. with new things only -/
theorem EPost.grow {α β : Type} {rel : Hp → α → β → Prop} {Q : β → Hp → Prop} {d : α} {v : β} {H' : Hp} (h : EPost K G b W rel H O σ Q (.ok (d, ds))) (I : DI K G b O H σ ds) (s : Same H H') (r : rel (hide H' O) d v) : Q v H' :=
  h v H' O (I.new' s) (Ext.new I s) r
theorem EPost.lft {α β : Type} {rel : Hp → α → β → Prop} {Q : β → Hp → Prop} {o : Option α} (h : EPost K G b W rel H O σ Q (lft o ds)) : ∃ d, o = some d ∧ EPost K G b W rel H O σ Q (.ok (d, ds)) := by
  cases o with
  | none => exact h.elim
  | some d => exact ⟨d, rfl, h⟩
theorem DI.val {i : Nat} {d : D} (I : DI K G b O H σ ds) (e : ds[i]? = some (.val d)) : ∃ v, σ[i]? = some (some v) ∧ Rep K (hide H O) d v := I.slot i _ e
end

section
variable {X : Cx} {W : WX} {G : Gx}
/-! ### names, constants -/
def vGet (i : Nat) (ds : DS) : R (D × DS) := match ds[i]? with
  | some (.val d) => .ok (d, ds)
  | _ => .stuck
theorem ed_var (i : Nat) {x : Str} {pos : Pos} (hN : X.N[i]? = some x := by rfl) (hv : Vis X.env.scope x := by first | exact Or.inl rfl | exact Or.inr (Or.inl rfl) | exact Or.inr (Or.inr rfl)) (hd : (x == ("__debug__" : Str)) = false := by decide)
    (hcd : (x == ("__classdict__" : Str)) = false := by decide) : ED X W G (.Name x pos) (vGet i) := by
  refine ⟨tVar i, pe_var hN hv hd hcd, fun b O H σ ds Q I h => ?_⟩
  unfold vGet at h
  split at h
  · rename_i d e
    obtain ⟨v, e1, r⟩ := I.val e
    exact ⟨v, e1, h.done I r⟩
  · exact h.elim
def vC (d : D) (ds : DS) : R (D × DS) := .ok (d, ds)
theorem ed_c {e : Expr} {v : V} {d : D} (h : PE X e (tC v)) (r : ∀ H, Rep X.K H d v) : ED X W G e (vC d) := ⟨tC v, h, fun _ _ _ _ _ _ I h => EPost.done (rel := relE X.K) h I (r _)⟩
theorem ed_int {i : Int} {j pos} : ED X W G (.Constant (.int i) j pos) (vC (.int i)) := ed_c pe_int fun _ => by unfold Rep; rfl
theorem ed_bl {b : Bool} {j pos} : ED X W G (.Constant (.bool b) j pos) (vC (.bl b)) := ed_c pe_bl fun _ => by unfold Rep; rfl
theorem ed_non {j pos} : ED X W G (.Constant .none j pos) (vC .non) := ed_c pe_non fun _ => by unfold Rep; rfl
theorem rep_str {K : PySem.W.Frag} {H : Hp} {s : List Nat} {x : Str} (e : x = sv s) (h : okS s = true) : Rep K H (.str s) (.str x) := by unfold Rep; exact ⟨by rw [e], h⟩
theorem ed_str (s : List Nat) {x : Str} {j pos} (e : x = sv s) (h : okS s = true := by decide +kernel) : ED X W G (.Constant (.str x) j pos) (vC (.str s)) := ed_c pe_str fun _ => rep_str e h
/-- a text of the module -/
theorem ed_gstr (s : List Nat) {x : Str} {y : Str} {t : Tok} {pos : Pos} (hm : X.mg x = some (.str y t)) (e : y = sv s) (hg : Gl X x := by rfl) (h : okS s = true := by decide +kernel) (hd : (x == ("__debug__" : Str)) = false := by decide) : ED X W G (.Name x pos) (vC (.str s)) :=
  ed_c (v := .str y) (pe_glob hg hm ⟨t, rfl⟩ hd) fun _ => rep_str e h
theorem ed_gint (i : Int) {x : Str} {t : Tok} {pos : Pos} (hm : X.mg x = some (.int i t)) (hg : Gl X x := by rfl) (hd : (x == ("__debug__" : Str)) = false := by decide) : ED X W G (.Name x pos) (vC (.int i)) :=
  ed_c (v := .int i) (pe_glob hg hm ⟨t, rfl⟩ hd) fun _ => by unfold Rep; rfl

/-! ### arguments, displays -/
def aNil (ds : DS) : R (List D × DS) := .ok ([], ds)
def aCons (fa : DS → R (D × DS)) (fr : DS → R (List D × DS)) (ds : DS) : R (List D × DS) := (fa ds).bind fun p => (fr p.2).bind fun q => .ok (p.1 :: q.1, q.2)
theorem ad_nil : AD X W G [] aNil := ⟨tNil, pa_nil, fun _ _ _ _ _ _ I h => EPost.done (rel := RepL X.K) h I RepL.nil⟩
theorem ad_cons {e : Expr} {es : List Expr} {fa : DS → R (D × DS)} {fr : DS → R (List D × DS)} (ha : ED X W G e fa) (hr : AD X W G es fr) (hs : starEach (e :: es) X.env = (false, eval e X.env) :: starEach es X.env := by rfl) : AD X W G (e :: es) (aCons fa fr) := by
  obtain ⟨ta, pa, ra⟩ := ha.ex
  obtain ⟨tr, pr, rr⟩ := hr.ex
  refine ⟨tCons ta tr, pa_cons pa pr hs, fun b O H σ ds Q I h => ?_⟩
  refine ra b O H σ ds _ I (EPost.bind h fun d1 ds1 v1 H1 O1 _ I1 x1 r1 h1 => ?_)
  refine rr b O1 H1 σ ds1 _ I1 (EPost.bind h1 fun d2 ds2 v2 H2 O2 _ I2 x2 r2 h2 => ?_)
  exact EPost.done (rel := RepL X.K) h2 I2 (RepL.cons (Rep.mono x2.same _ _ r1) r2)
theorem same_upd {H : Hp} {p : Addr} {o : HO} (h : H p = none) : Same H (upd H p o) := fun b u e => by rw [upd_ne (ne_of_none e h)]; exact e
theorem fresh_O {K : PySem.W.Frag} {G : Gx} {b : Bx} {H : Hp} {O : Addr → Bool} {σ : L2.St} {ds : DS} (I : DI K G b O H σ ds) {p : Addr} (h : H p = none) : O p = false := by
  cases e : O p with
  | false => rfl
  | true => exact absurd h (I.trk p e)
def mkTup (f : DS → R (List D × DS)) (ds : DS) : R (D × DS) := (f ds).bind fun p => if p.1.length ≤ Ln then .ok (.tup p.1, p.2) else .stuck
def mkLst (f : DS → R (List D × DS)) (ds : DS) : R (D × DS) := (f ds).bind fun p => if p.1.length ≤ Ln then .ok (.lst p.1, p.2) else .stuck
theorem ed_tup {es : List Expr} {f : DS → R (List D × DS)} {x1 pos} (h : AD X W G es f) : ED X W G (.Tuple es x1 pos) (mkTup f) := by
  obtain ⟨t, p, r⟩ := h.ex
  refine ⟨tTup t, pe_tup p, fun b O H σ ds Q I h => ?_⟩
  refine r b O H σ ds _ I (EPost.bind h fun d1 ds1 v1 H1 O1 _ I1 x1 r1 h1 => ?_)
  dsimp only at h1
  split at h1
  · rename_i hl
    refine ⟨by rw [r1.length, Ln_eq]; exact hl, fun p np => ?_⟩
    refine h1.grow (rel := relE X.K) I1 (same_upd np) ?_
    show Rep X.K _ (.tup d1) _
    unfold Rep
    exact ⟨p, v1, rfl, hide_mk upd_same (fresh_O I1 np), RepL.mono (SameR.of (hide_same (same_upd np) O1)) _ _ r1, hl⟩
  · exact h1.elim
theorem ed_lst {es : List Expr} {f : DS → R (List D × DS)} {pos} (h : AD X W G es f) : ED X W G (.List es pos) (mkLst f) := by
  obtain ⟨t, p, r⟩ := h.ex
  refine ⟨tLst t, pe_lst p, fun b O H σ ds Q I h => ?_⟩
  refine r b O H σ ds _ I (EPost.bind h fun d1 ds1 v1 H1 O1 _ I1 x1 r1 h1 => ?_)
  dsimp only at h1
  split at h1
  · rename_i hl
    refine ⟨by rw [r1.length, Ln_eq]; exact hl, fun p np => ?_⟩
    refine h1.grow (rel := relE X.K) I1 (same_upd np) ?_
    show Rep X.K _ (.lst d1) _
    unfold Rep
    exact ⟨p, v1, rfl, hide_mk upd_same (fresh_O I1 np), RepL.mono (SameR.of (hide_same (same_upd np) O1)) _ _ r1, hl⟩
  · exact h1.elim

/-! ### operators of two values, comparisons -/
structure OpD (X : Cx) (h : Value → Value → Sem Value) (g : D → D → Option D) : Prop where
  ex : ∃ r, OpR X h r ∧ ∀ (O : Addr → Bool) (H : Hp) (x y : V) (d1 d2 d : D) (Q : VK), (∀ p, H p = none → O p = false) → Rep X.K (hide H O) d1 x → Rep X.K (hide H O) d2 y → g d1 d2 = some d →
    (∀ v H', Same H H' → Rep X.K (hide H' O) d v → Q v H') → r x y H Q
def fBin (g : D → D → Option D) (fa fb : DS → R (D × DS)) (ds : DS) : R (D × DS) := (fa ds).bind fun p => (fb p.2).bind fun q => lft (g p.1 q.1) q.2
section
variable {a b : Expr} {fa fb fc : DS → R (D × DS)} {g : D → D → Option D} {pos : Pos}
theorem bin_core {h : Value → Value → Sem Value} {r : R2} {ta tb : TE}
    (ra : ∀ b O H σ ds Q, DI X.K G b O H σ ds → EPost X.K G b W (relE X.K) H O σ Q (fa ds) → ta σ H Q) (rb : ∀ b O H σ ds Q, DI X.K G b O H σ ds → EPost X.K G b W (relE X.K) H O σ Q (fb ds) → tb σ H Q)
    (rr : ∀ (O : Addr → Bool) (H : Hp) (x y : V) (d1 d2 d : D) (Q : VK), (∀ p, H p = none → O p = false) → Rep X.K (hide H O) d1 x → Rep X.K (hide H O) d2 y → g d1 d2 = some d →
    (∀ v H', Same H H' → Rep X.K (hide H' O) d v → Q v H') → r x y H Q) :
    ∀ b O H σ ds Q, DI X.K G b O H σ ds → EPost X.K G b W (relE X.K) H O σ Q (fBin g fa fb ds) → tOp r ta tb σ H Q := by
  intro b O H σ ds Q I h
  refine ra b O H σ ds _ I (EPost.bind h fun d1 ds1 v1 H1 O1 _ I1 x1 r1 h1 => ?_)
  refine rb b O1 H1 σ ds1 _ I1 (EPost.bind h1 fun d2 ds2 v2 H2 O2 _ I2 x2 r2 h2 => ?_)
  obtain ⟨d, e, h3⟩ := EPost.lft h2
  exact rr O2 H2 v1 v2 d1 d2 d Q (fun p np => fresh_O I2 np) (Rep.mono x2.same _ _ r1) r2 e fun v H' s r => h3.grow (rel := relE X.K) I2 s r
theorem ed_bin {op : Operator} (ho : OpD X (binaryOp op) g) (ha : ED X W G a fa) (hb : ED X W G b fb) : ED X W G (.BinOp a op b pos) (fBin g fa fb) := by
  obtain ⟨ta, pa, ra⟩ := ha.ex
  obtain ⟨tb, pb, rb⟩ := hb.ex
  obtain ⟨r, po, rr⟩ := ho.ex
  exact ⟨tOp r ta tb, pe_op po pa pb, bin_core (h := binaryOp op) ra rb rr⟩
theorem ed_cmp {op : CmpOp} (ho : OpD X (compareOp op) g) (ha : ED X W G a fa) (hb : ED X W G b fb) (hm : behindInMarks op b = false := by first | exact nomark _ | rfl) : ED X W G (.Compare a [op] [b] pos) (fBin g fa fb) := by
  obtain ⟨ta, pa, ra⟩ := ha.ex
  obtain ⟨tb, pb, rb⟩ := hb.ex
  obtain ⟨r, po, rr⟩ := ho.ex
  exact ⟨tOp r ta tb, pe_cmpR po pa pb hm, bin_core (h := compareOp op) ra rb rr⟩
/-- a op b op' c -/
def fChain (g g' : D → D → Option D) (fa fb fc : DS → R (D × DS)) (ds : DS) : R (D × DS) := (fa ds).bind fun p => (fb p.2).bind fun q => (lft (g p.1 q.1) q.2).bind fun u => match u.1 with
  | .bl true => (fc u.2).bind fun w => lft (g' q.1 w.1) w.2
  | .bl false => .ok (.bl false, u.2)
  | _ => .stuck
end

/-! ### tests -/
def toB (f : DS → R (D × DS)) (ds : DS) : R (Bool × DS) := (f ds).bind fun p => match p.1 with
  | .bl b => .ok (b, p.2)
  | _ => .stuck
theorem td_of {e : Expr} {f : DS → R (D × DS)} (h : ED X W G e f) (he : ∀ whole, isTrue e X.env whole = (do let v ← whole; standAt e.pos; holding [v] (truthy v)) := by intro _; rfl) : TD X W G e (toB f) := by
  obtain ⟨t, p, r⟩ := h.ex
  refine ⟨tB t, pt_val p he, fun b O H σ ds Q I h => ?_⟩
  refine r b O H σ ds _ I (EPost.bind h fun d1 ds1 v1 H1 O1 _ I1 x1 r1 h1 => ?_)
  match d1, r1, h1 with
  | .bl b, r1, h1 =>
    have e : v1 = .bl b := by have r1 : Rep X.K _ (.bl b) v1 := r1; unfold Rep at r1; exact r1
    exact ⟨b, e, EPost.done (rel := relB) h1 I1 rfl⟩
  | .non, _, h1 => exact h1.elim
  | .int _, _, h1 => exact h1.elim
  | .str _, _, h1 => exact h1.elim
  | .tup _, _, h1 => exact h1.elim
  | .lst _, _, h1 => exact h1.elim
  | .dic _ _, _, h1 => exact h1.elim
  | .op _, _, h1 => exact h1.elim
  | .scr _, _, h1 => exact h1.elim
  | .ktup _, _, h1 => exact h1.elim
/-- a comparison as a test -/
theorem td_cmp {a b : Expr} {fa fb : DS → R (D × DS)} {g : D → D → Option D} {pos : Pos} {op : CmpOp} (ho : OpD X (compareOp op) g) (ha : ED X W G a fa) (hb : ED X W G b fb) (hm : behindInMarks op b = false := by first | exact nomark _ | rfl) : TD X W G (.Compare a [op] [b] pos) (toB (fBin g fa fb)) := by
  obtain ⟨ta, pa, ra⟩ := ha.ex
  obtain ⟨tb, pb, rb⟩ := hb.ex
  obtain ⟨r, po, rr⟩ := ho.ex
  refine ⟨tTest (tOp r ta tb), pt_cmpR po pa pb hm, fun b O H σ ds Q I h => ?_⟩
  refine bin_core (h := compareOp op) ra rb rr b O H σ ds _ I (EPost.bind h fun d1 ds1 v1 H1 O1 _ I1 x1 r1 h1 => ?_)
  match d1, r1, h1 with
  | .bl b, r1, h1 =>
    have e : v1 = .bl b := by have r1 : Rep X.K _ (.bl b) v1 := r1; unfold Rep at r1; exact r1
    exact ⟨b, e, EPost.done (rel := relB) h1 I1 rfl⟩
  | .non, _, h1 => exact h1.elim
  | .int _, _, h1 => exact h1.elim
  | .str _, _, h1 => exact h1.elim
  | .tup _, _, h1 => exact h1.elim
  | .lst _, _, h1 => exact h1.elim
  | .dic _ _, _, h1 => exact h1.elim
  | .op _, _, h1 => exact h1.elim
  | .scr _, _, h1 => exact h1.elim
  | .ktup _, _, h1 => exact h1.elim
theorem td_w {e : Expr} {f : DS → R (Bool × DS)} (h : TWD X W G e f) : TD X W G e f := let ⟨t, p, r⟩ := h.ex; ⟨t, p.pt, r⟩
def bNot (f : DS → R (Bool × DS)) (ds : DS) : R (Bool × DS) := (f ds).bind fun p => .ok (!p.1, p.2)
def bAnd (f g : DS → R (Bool × DS)) (ds : DS) : R (Bool × DS) := (f ds).bind fun p => if p.1 = true then g p.2 else .ok (false, p.2)
def bOr (f g : DS → R (Bool × DS)) (ds : DS) : R (Bool × DS) := (f ds).bind fun p => if p.1 = true then .ok (true, p.2) else g p.2
theorem td_not {a : Expr} {f : DS → R (Bool × DS)} {pos : Pos} (h : TD X W G a f) : TD X W G (.UnaryOp .Not a pos) (bNot f) := by
  obtain ⟨t, p, r⟩ := h.ex
  refine ⟨tNot t, pt_not p, fun b O H σ ds Q I h => ?_⟩
  refine r b O H σ ds _ I (EPost.bind h fun d1 ds1 v1 H1 O1 _ I1 x1 r1 h1 => ?_)
  cases (show d1 = v1 from r1)
  exact EPost.done (rel := relB) h1 I1 rfl
theorem tw_and1 {a : Expr} {f : DS → R (Bool × DS)} {pos : Pos} (h : TD X W G a f) : TWD X W G (.BoolOp .And [a] pos) f := let ⟨t, p, r⟩ := h.ex; ⟨t, pw_and1 p, r⟩
theorem tw_or1 {a : Expr} {f : DS → R (Bool × DS)} {pos : Pos} (h : TD X W G a f) : TWD X W G (.BoolOp .Or [a] pos) f := let ⟨t, p, r⟩ := h.ex; ⟨t, pw_or1 p, r⟩
theorem tw_and {a b : Expr} {rest : List Expr} {f g : DS → R (Bool × DS)} {pos : Pos} (h : TD X W G a f) (k : TWD X W G (.BoolOp .And (b :: rest) pos) g) : TWD X W G (.BoolOp .And (a :: b :: rest) pos) (bAnd f g) := by
  obtain ⟨ta, pa, ra⟩ := h.ex
  obtain ⟨tb, pb, rb⟩ := k.ex
  refine ⟨tAnd ta tb, pw_and pa pb, fun b O H σ ds Q I h => ?_⟩
  refine ra b O H σ ds _ I (EPost.bind h fun d1 ds1 v1 H1 O1 _ I1 x1 r1 h1 => ?_)
  cases (show d1 = v1 from r1)
  cases d1 with
  | true => exact iteT (rb b O1 H1 σ ds1 _ I1 h1)
  | false => exact iteF (EPost.done (rel := relB) h1 I1 rfl)
theorem tw_or {a b : Expr} {rest : List Expr} {f g : DS → R (Bool × DS)} {pos : Pos} (h : TD X W G a f) (k : TWD X W G (.BoolOp .Or (b :: rest) pos) g) : TWD X W G (.BoolOp .Or (a :: b :: rest) pos) (bOr f g) := by
  obtain ⟨ta, pa, ra⟩ := h.ex
  obtain ⟨tb, pb, rb⟩ := k.ex
  refine ⟨tOr ta tb, pw_or pa pb, fun b O H σ ds Q I h => ?_⟩
  refine ra b O H σ ds _ I (EPost.bind h fun d1 ds1 v1 H1 O1 _ I1 x1 r1 h1 => ?_)
  cases (show d1 = v1 from r1)
  cases d1 with
  | false => exact iteF (rb b O1 H1 σ ds1 _ I1 h1)
  | true => exact iteT (EPost.done (rel := relB) h1 I1 rfl)

/-! ### and, or, not as values; a if t else b -/
def fAnd (fa fb : DS → R (D × DS)) (ds : DS) : R (D × DS) := (fa ds).bind fun p => match p.1 with
  | .bl b => if b = true then fb p.2 else .ok (.bl false, p.2)
  | _ => .stuck
def fOr (fa fb : DS → R (D × DS)) (ds : DS) : R (D × DS) := (fa ds).bind fun p => match p.1 with
  | .bl b => if b = true then .ok (.bl true, p.2) else fb p.2
  | _ => .stuck
def fNot (fa : DS → R (D × DS)) (ds : DS) : R (D × DS) := (fa ds).bind fun p => match p.1 with
  | .bl b => .ok (.bl (!b), p.2)
  | _ => .stuck
theorem rep_bl {K : PySem.W.Frag} {H : Hp} {b : Bool} {v : V} : Rep K H (.bl b) v ↔ v = .bl b := by unfold Rep; exact Iff.rfl
theorem rep_int {K : PySem.W.Frag} {H : Hp} {b : Int} {v : V} : Rep K H (.int b) v ↔ v = .int b := by unfold Rep; exact Iff.rfl
theorem rep_non {K : PySem.W.Frag} {H : Hp} {v : V} : Rep K H .non v ↔ v = .non := by unfold Rep; exact Iff.rfl
theorem ed_and1 {a : Expr} {f : DS → R (D × DS)} {op : BoolOp} {pos : Pos} (h : ED X W G a f) : ED X W G (.BoolOp op [a] pos) f := let ⟨t, p, r⟩ := h.ex; ⟨t, pe_one p, r⟩
theorem ed_and {a b : Expr} {rest : List Expr} {f g : DS → R (D × DS)} {pos : Pos} (h : ED X W G a f) (k : ED X W G (.BoolOp .And (b :: rest) pos) g) : ED X W G (.BoolOp .And (a :: b :: rest) pos) (fAnd f g) := by
  obtain ⟨ta, pa, ra⟩ := h.ex
  obtain ⟨tb, pb, rb⟩ := k.ex
  refine ⟨tAndV ta tb, pe_and pa pb, fun b O H σ ds Q I h => ?_⟩
  refine ra b O H σ ds _ I (EPost.bind h fun d1 ds1 v1 H1 O1 _ I1 x1 r1 h1 => ?_)
  match d1, r1, h1 with
  | .bl c, r1, h1 =>
    refine ⟨c, rep_bl.mp r1, ?_⟩
    cases c with
    | true => exact iteT (rb b O1 H1 σ ds1 _ I1 h1)
    | false => exact iteF (EPost.done (rel := relE X.K) h1 I1 (rep_bl.mpr rfl))
  | .non, _, h1 => exact h1.elim
  | .int _, _, h1 => exact h1.elim
  | .str _, _, h1 => exact h1.elim
  | .tup _, _, h1 => exact h1.elim
  | .lst _, _, h1 => exact h1.elim
  | .dic _ _, _, h1 => exact h1.elim
  | .op _, _, h1 => exact h1.elim
  | .scr _, _, h1 => exact h1.elim
  | .ktup _, _, h1 => exact h1.elim
theorem ed_or {a b : Expr} {rest : List Expr} {f g : DS → R (D × DS)} {pos : Pos} (h : ED X W G a f) (k : ED X W G (.BoolOp .Or (b :: rest) pos) g) : ED X W G (.BoolOp .Or (a :: b :: rest) pos) (fOr f g) := by
  obtain ⟨ta, pa, ra⟩ := h.ex
  obtain ⟨tb, pb, rb⟩ := k.ex
  refine ⟨tOrV ta tb, pe_or pa pb, fun b O H σ ds Q I h => ?_⟩
  refine ra b O H σ ds _ I (EPost.bind h fun d1 ds1 v1 H1 O1 _ I1 x1 r1 h1 => ?_)
  match d1, r1, h1 with
  | .bl c, r1, h1 =>
    refine ⟨c, rep_bl.mp r1, ?_⟩
    cases c with
    | false => exact iteF (rb b O1 H1 σ ds1 _ I1 h1)
    | true => exact iteT (EPost.done (rel := relE X.K) h1 I1 (rep_bl.mpr rfl))
  | .non, _, h1 => exact h1.elim
  | .int _, _, h1 => exact h1.elim
  | .str _, _, h1 => exact h1.elim
  | .tup _, _, h1 => exact h1.elim
  | .lst _, _, h1 => exact h1.elim
  | .dic _ _, _, h1 => exact h1.elim
  | .op _, _, h1 => exact h1.elim
  | .scr _, _, h1 => exact h1.elim
  | .ktup _, _, h1 => exact h1.elim
theorem ed_not {a : Expr} {f : DS → R (D × DS)} {pos : Pos} (h : ED X W G a f) : ED X W G (.UnaryOp .Not a pos) (fNot f) := by
  obtain ⟨ta, pa, ra⟩ := h.ex
  refine ⟨tNotV ta, pe_not pa, fun b O H σ ds Q I h => ?_⟩
  refine ra b O H σ ds _ I (EPost.bind h fun d1 ds1 v1 H1 O1 _ I1 x1 r1 h1 => ?_)
  match d1, r1, h1 with
  | .bl c, r1, h1 => exact ⟨c, rep_bl.mp r1, EPost.done (rel := relE X.K) h1 I1 (rep_bl.mpr rfl)⟩
  | .non, _, h1 => exact h1.elim
  | .int _, _, h1 => exact h1.elim
  | .str _, _, h1 => exact h1.elim
  | .tup _, _, h1 => exact h1.elim
  | .lst _, _, h1 => exact h1.elim
  | .dic _ _, _, h1 => exact h1.elim
  | .op _, _, h1 => exact h1.elim
  | .scr _, _, h1 => exact h1.elim
  | .ktup _, _, h1 => exact h1.elim
def fIf (t : DS → R (Bool × DS)) (fa fb : DS → R (D × DS)) (ds : DS) : R (D × DS) := (t ds).bind fun p => if p.1 = true then fa p.2 else fb p.2
theorem ed_if {c a b : Expr} {t : DS → R (Bool × DS)} {fa fb : DS → R (D × DS)} {pos : Pos} (hc : TD X W G c t) (ha : ED X W G a fa) (hb : ED X W G b fb) : ED X W G (.IfExp c a b pos) (fIf t fa fb) := by
  obtain ⟨tc, pc, rc⟩ := hc.ex
  obtain ⟨ta, pa, ra⟩ := ha.ex
  obtain ⟨tb, pb, rb⟩ := hb.ex
  refine ⟨tIf tc ta tb, pe_ifExp pc pa pb, fun b O H σ ds Q I h => ?_⟩
  refine rc b O H σ ds _ I (EPost.bind h fun d1 ds1 v1 H1 O1 _ I1 x1 r1 h1 => ?_)
  cases (show d1 = v1 from r1)
  cases d1 with
  | true => exact iteT (ra b O1 H1 σ ds1 _ I1 h1)
  | false => exact iteF (rb b O1 H1 σ ds1 _ I1 h1)

/-- a op b op' c -/
theorem ed_chain {op op' : CmpOp} {a b c : Expr} {fa fb fc : DS → R (D × DS)} {g g' : D → D → Option D} {pos : Pos} (ho : OpD X (compareOp op) g) (ho' : OpD X (compareOp op') g') (ha : ED X W G a fa) (hb : ED X W G b fb) (hc : ED X W G c fc)
    (hm : lastMarks [op, op'] [b, c] = false := by with_unfolding_all rfl) : ED X W G (.Compare a [op, op'] [b, c] pos) (fChain g g' fa fb fc) := by
  obtain ⟨ta, pa, ra⟩ := ha.ex
  obtain ⟨tb, pb, rb⟩ := hb.ex
  obtain ⟨tc, pc, rc⟩ := hc.ex
  obtain ⟨r, po, rr⟩ := ho.ex
  obtain ⟨r', po', rr'⟩ := ho'.ex
  refine ⟨tChain r r' ta tb tc, pe_chain po po' pa pb pc hm, fun b O H σ ds Q I h => ?_⟩
  refine ra b O H σ ds _ I (EPost.bind h fun d1 ds1 v1 H1 O1 _ I1 x1 r1 h1 => ?_)
  refine rb b O1 H1 σ ds1 _ I1 (EPost.bind h1 fun d2 ds2 v2 H2 O2 _ I2 x2 r2 h2 => ?_)
  cases e : g d1 d2 with
  | none => rw [show lft (g (d1, ds1).1 (d2, ds2).1) (d2, ds2).2 = lft (g d1 d2) ds2 from rfl, e] at h2; exact h2.elim
  | some d =>
    rw [show lft (g (d1, ds1).1 (d2, ds2).1) (d2, ds2).2 = lft (g d1 d2) ds2 from rfl, e] at h2
    refine rr O2 H2 v1 v2 d1 d2 d _ (fun p np => fresh_O I2 np) (Rep.mono x2.same _ _ r1) r2 e fun v H' s rv => ?_
    have h3 := EPost.step h2 (Ext.new I2 s)
    have I3 := I2.new' s
    match d, rv, h3 with
    | .bl k, rv, h3 =>
      refine ⟨k, rep_bl.mp rv, ?_⟩
      cases k with
      | false => exact iteF (EPost.done (rel := relE X.K) h3 I3 (rep_bl.mpr rfl))
      | true =>
        refine iteT (rc b O2 H' σ ds2 _ I3 (EPost.bind h3 fun d3 ds3 v3 H3 O3 _ I4 x3 r3 h4 => ?_))
        obtain ⟨d4, e4, h5⟩ := EPost.lft h4
        exact rr' O3 H3 v2 v3 d2 d3 d4 Q (fun p np => fresh_O I4 np) (Rep.mono x3.same _ _ (Rep.mono (SameR.of (hide_same s O2)) _ _ r2)) r3 e4 fun v H' s r => h5.grow (rel := relE X.K) I4 s r
    | .non, _, h3 => exact h3.elim
    | .int _, _, h3 => exact h3.elim
    | .str _, _, h3 => exact h3.elim
    | .tup _, _, h3 => exact h3.elim
    | .lst _, _, h3 => exact h3.elim
    | .dic _ _, _, h3 => exact h3.elim
    | .op _, _, h3 => exact h3.elim
    | .scr _, _, h3 => exact h3.elim
    | .ktup _, _, h3 => exact h3.elim

/-! ### subscripts -/
structure IxD (X : Cx) (g : D → D → Option D) : Prop where
  ex : ∃ r, IxR X r ∧ ∀ (O : Addr → Bool) (H : Hp) (x y : V) (d1 d2 d : D) (Q : VK), (∀ p, H p = none → O p = false) → Rep X.K (hide H O) d1 x → Rep X.K (hide H O) d2 y → g d1 d2 = some d →
    (∀ v H', Same H H' → Rep X.K (hide H' O) d v → Q v H') → r x y H Q
theorem ed_ix {a b : Expr} {fa fb : DS → R (D × DS)} {g : D → D → Option D} {pos : Pos} (ho : IxD X g) (ha : ED X W G a fa) (hb : ED X W G b fb) (hs : PlainIx b := by exact fun _ _ => rfl) : ED X W G (.Subscript a b pos) (fBin g fa fb) := by
  obtain ⟨ta, pa, ra⟩ := ha.ex
  obtain ⟨tb, pb, rb⟩ := hb.ex
  obtain ⟨r, po, rr⟩ := ho.ex
  exact ⟨tOp r ta tb, pe_ix po pa pb hs, bin_core (h := getItem) ra rb rr⟩

/-! ### calls of what is built in -/
structure CallD (X : Cx) (f : Value) (g : List D → Option D) : Prop where
  ex : ∃ r, CallR X f r ∧ ∀ (O : Addr → Bool) (H : Hp) (vs : List V) (ds : List D) (d : D) (Q : VK), (∀ p, H p = none → O p = false) → RepL X.K (hide H O) ds vs → g ds = some d →
    (∀ v H', Same H H' → Rep X.K (hide H' O) d v → Q v H') → r vs H Q
def fCall (g : List D → Option D) (fa : DS → R (List D × DS)) (ds : DS) : R (D × DS) := (fa ds).bind fun p => lft (g p.1) p.2
theorem call_core {fa : DS → R (List D × DS)} {g : List D → Option D} {r : List V → Hp → VK → Prop} {ta : TA}
    (ra : ∀ b O H σ ds Q, DI X.K G b O H σ ds → EPost X.K G b W (RepL X.K) H O σ Q (fa ds) → ta σ H Q)
    (rr : ∀ (O : Addr → Bool) (H : Hp) (vs : List V) (ds : List D) (d : D) (Q : VK), (∀ p, H p = none → O p = false) → RepL X.K (hide H O) ds vs → g ds = some d →
    (∀ v H', Same H H' → Rep X.K (hide H' O) d v → Q v H') → r vs H Q) :
    ∀ b O H σ ds Q, DI X.K G b O H σ ds → EPost X.K G b W (relE X.K) H O σ Q (fCall g fa ds) → tCB r ta σ H Q := by
  intro b O H σ ds Q I h
  refine ra b O H σ ds _ I (EPost.bind h fun d1 ds1 v1 H1 O1 _ I1 x1 r1 h1 => ?_)
  obtain ⟨d, e, h3⟩ := EPost.lft h1
  exact rr O1 H1 v1 d1 d Q (fun p np => fresh_O I1 np) r1 e fun v H' s r => h3.grow (rel := relE X.K) I1 s r
theorem ed_callB {e : Expr} {es : List Expr} {fa : DS → R (List D × DS)} {g : List D → Option D} {id : String} {x : Str} {p pos : Pos} (hc : CallD X (.builtin id) g) (hm : X.mg x = none) (hv : bootBuiltins x = some (.builtin id)) (ha : AD X W G (e :: es) fa)
    (hg : Gl X x := by rfl) (hn : x ≠ "__name__" := by decide) (hdb : (x == ("__debug__" : Str)) = false := by decide)
    (he : starEach (e :: es) X.env = (false, eval e X.env) :: starEach es X.env := by rfl) (hpl : (backTo pos (starEach es X.env)).any (·.1) = false := by rfl) : ED X W G (.Call (.Name x p) (e :: es) [] pos) (fCall g fa) := by
  obtain ⟨ta, pa, ra⟩ := ha.ex
  obtain ⟨r, po, rr⟩ := hc.ex
  exact ⟨tCB r ta, pe_callB po hg hm hv pa hn hdb he hpl, call_core ra rr⟩
theorem ed_callTy {e : Expr} {es : List Expr} {fa : DS → R (List D × DS)} {g : List D → Option D} {T : String} {x : Str} {p pos : Pos} (hc : CallD X (.type T) g) (hm : X.mg x = none) (hv : bootBuiltins x = some (.type T)) (ha : AD X W G (e :: es) fa)
    (hg : Gl X x := by rfl) (hn : x ≠ "__name__" := by decide) (hdb : (x == ("__debug__" : Str)) = false := by decide)
    (he : starEach (e :: es) X.env = (false, eval e X.env) :: starEach es X.env := by rfl) (hpl : (backTo pos (starEach es X.env)).any (·.1) = false := by rfl) : ED X W G (.Call (.Name x p) (e :: es) [] pos) (fCall g fa) := by
  obtain ⟨ta, pa, ra⟩ := ha.ex
  obtain ⟨r, po, rr⟩ := hc.ex
  exact ⟨tCB r ta, pe_callTy po hg hm hv pa hn hdb he hpl, call_core ra rr⟩
end
end DL

/-! DC: what is new and owned, statements, defs and their calls -/
namespace DL
open PySem L2

section
variable {K : PySem.W.Frag} {G : Gx} {b : Bx} {W : WX} {H : Hp} {O : Addr → Bool} {σ : L2.St} {ds : DS}
/-- p is owned, by no name -/
structure Own1 (K : PySem.W.Frag) (G : Gx) (b : Bx) (O : Addr → Bool) (H : Hp) (σ : L2.St) (ds : DS) (p : Addr) (c : Ct) : Prop where
  o : O p = true
  nb : b.B p = false
  no : ∀ (i : Nat) (c : Ct), ds[i]? = some (.own c) → σ[i]? ≠ some (some (.ref p))
  at_ : ∃ o, H p = some o ∧ CtR K G.cm (hide H O) c o
  nw : b.H0 p = none
def addO (O : Addr → Bool) (p : Addr) : Addr → Bool := fun a => O a || a == p
def subO (O : Addr → Bool) (p : Addr) : Addr → Bool := fun a => O a && !(a == p)
theorem addO_self {O : Addr → Bool} {p : Addr} : addO O p p = true := by simp [addO]
theorem addO_of {O : Addr → Bool} {p a : Addr} (h : O a = true) : addO O p a = true := by simp [addO, h]
theorem of_addO {O : Addr → Bool} {p a : Addr} (h : addO O p a = true) (n : a ≠ p) : O a = true := by
  unfold addO at h
  simp only [Bool.or_eq_true, beq_iff_eq] at h
  exact h.resolve_right n
theorem of_subO {O : Addr → Bool} {p a : Addr} (h : subO O p a = true) : O a = true ∧ a ≠ p := by
  unfold subO at h
  simp only [Bool.and_eq_true, Bool.not_eq_true', beq_eq_false_iff_ne, ne_eq] at h
  exact h
theorem subO_of {O : Addr → Bool} {p a : Addr} (h : O a = true) (n : a ≠ p) : subO O p a = true := by
  unfold subO
  simp only [Bool.and_eq_true, Bool.not_eq_true', beq_eq_false_iff_ne, ne_eq]
  exact ⟨h, n⟩
/-- a new object that is owned from its making on -/
theorem hide_new {H : Hp} {O : Addr → Bool} {p : Addr} {o : HO} (np : H p = none) : Same (hide H O) (hide (upd H p o) (addO O p)) := fun a u e => by
  obtain ⟨e1, e2⟩ := hide_of e
  have ne : a ≠ p := ne_of_none e1 np
  refine hide_mk (by rw [upd_ne ne]; exact e1) ?_
  cases q : addO O p a with
  | false => rfl
  | true => rw [of_addO q ne] at e2; cases e2
theorem DI.made {p : Addr} {o : HO} (I : DI K G b O H σ ds) (np : H p = none) : DI K G b (addO O p) (upd H p o) σ ds := by
  have s : SameR (hide H O) (hide (upd H p o) (addO O p)) := SameR.of (hide_new np)
  refine ⟨I.len, fun i x h => ?_, I.sep, fun a h => addO_of (I.sub a h), I.pin, I.pidx, fun a h => ?_, fun a h => ?_, fun a h => ?_⟩
  · have q := I.slot i x h
    cases x with
    | emp => trivial
    | val d => obtain ⟨v, e, r⟩ := q; exact ⟨v, e, Rep.mono s _ _ r⟩
    | own c =>
      obtain ⟨p', o', e, h1, h2, h3, h4⟩ := q
      exact ⟨p', o', e, addO_of h1, h2, by rw [upd_ne (ne_of_none h3 np)]; exact h3, h4.mono s⟩
  · by_cases e : a = p
    · subst e; rw [upd_same]; simp
    · rw [upd_ne e]; exact I.trk a (of_addO h e)
  · by_cases e : a = p
    · subst e; exact .inr (.inr (I.ent a np))
    · exact I.new a (of_addO h e)
  · by_cases e : a = p
    · subst e; exact I.ent a np
    · rw [upd_ne e] at h; exact I.ent a h
theorem Ext.made {p : Addr} {o : HO} (I : DI K G b O H σ ds) (np : H p = none) : Ext b H O (upd H p o) (addO O p) :=
  ⟨fun a h => upd_ne (fun e => I.trk a (I.sub a h) (by rw [e]; exact np)), hide_new np, fun a h => by
    by_cases e : a = p
    · subst e; exact np
    · rw [upd_ne e] at h; exact h, fun a o u h => by rw [upd_ne (ne_of_none h np)]; exact h⟩
/-- what is owned by no name is let go -/
theorem DI.drop {p : Addr} {c : Ct} (I : DI K G b O H σ ds) (w : Own1 K G b O H σ ds p c) : DI K G b (subO O p) H σ ds := by
  have s : SameR (hide H O) (hide H (subO O p)) := SameR.hide_weak fun a h => (of_subO h).1
  refine ⟨I.len, fun i x h => ?_, I.sep, fun a h => ?_, I.pin, I.pidx, fun a h => I.trk a (of_subO h).1, fun a h => I.new a (of_subO h).1, I.ent⟩
  · have q := I.slot i x h
    cases x with
    | emp => trivial
    | val d => obtain ⟨v, e, r⟩ := q; exact ⟨v, e, Rep.mono s _ _ r⟩
    | own c' =>
      obtain ⟨p', o', e, h1, h2, h3, h4⟩ := q
      exact ⟨p', o', e, subO_of h1 fun z => w.no i c' h (by rw [e, z]), h2, h3, h4.mono s⟩
  · refine subO_of (I.sub a h) fun z => ?_
    have := w.nb
    rw [← z, h] at this
    cases this
theorem Ext.drop {p : Addr} : Ext b H O H (subO O p) := ⟨fun _ _ => rfl, same_weak fun a h => (of_subO h).1, fun _ h => h, fun _ _ _ h => h⟩
end

/-! ### expressions that make something new, or hand on what a name owns -/
def OPost (K : PySem.W.Frag) (G : Gx) (b : Bx) (W : WX) (H : Hp) (O : Addr → Bool) (σ : L2.St) (Q : VK) : R (Ct × DS) → Prop
  | .stuck => False
  | .ok (c, ds') => ∀ p H' O', DI K G b O' H' σ ds' → Ext b H O H' O' → Own1 K G b O' H' σ ds' p c → Q (.ref p) H'
  | .exc c ds' => ∀ x H' O', DI K G b O' H' σ ds' → Ext b H O H' O' → W (.ref (G.cm c)) x σ H'
theorem OPost.step {K : PySem.W.Frag} {G : Gx} {b : Bx} {W : WX} {H H1 : Hp} {O O1 : Addr → Bool} {σ : L2.St} {Q : VK} {r : R (Ct × DS)} (h : OPost K G b W H O σ Q r) (x : Ext b H O H1 O1) : OPost K G b W H1 O1 σ Q r := by
  match r, h with
  | .ok (d, ds'), h => exact fun v H' O' I e q => h v H' O' I (x.trans e) q
  | .exc c ds', h => exact fun y H' O' I e => h y H' O' I (x.trans e)
theorem OPost.bind {K : PySem.W.Frag} {G : Gx} {b : Bx} {W : WX} {α β : Type} {rel : Hp → α → β → Prop} {H : Hp} {O : Addr → Bool} {σ : L2.St} {Q : β → Hp → Prop} {Q' : VK} {r : R (α × DS)} {f : α × DS → R (Ct × DS)}
    (h : OPost K G b W H O σ Q' (r.bind f)) (k : ∀ d ds' v H' O', r = .ok (d, ds') → DI K G b O' H' σ ds' → Ext b H O H' O' → rel (hide H' O') d v → OPost K G b W H' O' σ Q' (f (d, ds')) → Q v H') : EPost K G b W rel H O σ Q r := by
  match r, h with
  | .ok (d, ds'), h => exact fun v H' O' I e q => k d ds' v H' O' rfl I e q (h.step e)
  | .exc c ds', h => exact h
structure EO (X : Cx) (W : WX) (G : Gx) (e : Expr) (f : DS → R (Ct × DS)) : Prop where
  ex : ∃ t, PE X e t ∧ ∀ b O H σ ds Q, DI X.K G b O H σ ds → OPost X.K G b W H O σ Q (f ds) → t σ H Q


section
variable {X : Cx} {W : WX} {G : Gx}
def dOf : Ct → Option D
  | .l xs => some (.lst xs)
  | .d t kvs => some (.dic t kvs)
  | .i _ _ => none
theorem rep_dOf {K : PySem.W.Frag} {cm : Nat → Addr} {H : Hp} {c : Ct} {d : D} {p : Addr} {o : HO} (e : dOf c = some d) (hp : H p = some o) (r : CtR K cm H c o) : Rep K H d (.ref p) := by
  cases c with
  | l xs =>
    simp only [dOf, Option.some.injEq] at e; subst e
    obtain ⟨ys, rfl, r, l⟩ := r
    unfold Rep; exact ⟨p, ys, rfl, hp, r, l⟩
  | d t kvs =>
    simp only [dOf, Option.some.injEq] at e; subst e
    obtain ⟨l, r⟩ := r
    unfold Rep
    refine ⟨p, rfl, l, ?_⟩
    rcases r with ⟨z, ks, rfl, r⟩ | ⟨z, ks, rfl, r⟩
    · exact .inl ⟨z, ks, .inl hp, r⟩
    · exact .inr ⟨z, ks, .inl hp, r⟩
  | i c fs => simp [dOf] at e
/-- .. as a value -/
def ofO (f : DS → R (Ct × DS)) (ds : DS) : R (D × DS) := (f ds).bind fun p => lft (dOf p.1) p.2
theorem ed_of {e : Expr} {f : DS → R (Ct × DS)} (h : EO X W G e f) : ED X W G e (ofO f) := by
  obtain ⟨t, p, r⟩ := h.ex
  refine ⟨t, p, fun b O H σ ds Q I h => r b O H σ ds Q I ?_⟩
  unfold ofO at h
  match q : f ds, h with
  | .stuck, h => exact h
  | .exc c ds', h => exact h
  | .ok (c, ds'), h =>
    intro p H' O' I' x w
    obtain ⟨d, e, h1⟩ := EPost.lft h
    refine h1 _ H' (subO O' p) (I'.drop w) (x.trans Ext.drop) ?_
    obtain ⟨o, hp, hr⟩ := w.at_
    refine rep_dOf (cm := G.cm) e (hide_mk hp ?_) (CtR.mono (SameR.hide_weak fun a h => (of_subO h).1) hr)
    cases q : subO O' p p with
    | false => rfl
    | true => exact absurd rfl (of_subO q).2
/-- a new object's end -/
theorem OPost.made {K : PySem.W.Frag} {G : Gx} {b : Bx} {W : WX} {H : Hp} {O : Addr → Bool} {σ : L2.St} {Q : VK} {ds : DS} {c : Ct} {p : Addr} {o : HO} (h : OPost K G b W H O σ Q (.ok (c, ds))) (I : DI K G b O H σ ds) (np : H p = none) (r : CtR K G.cm (hide H O) c o) : Q (.ref p) (upd H p o) := by
  refine h p _ _ (I.made np) (Ext.made I np) ⟨addO_self, ?_, fun i c' hi e => ?_, ⟨o, upd_same, r.mono (SameR.of (hide_new np))⟩, I.ent p np⟩
  · cases e : b.B p with
    | false => rfl
    | true => exact absurd np (I.trk p (I.sub p e))
  · obtain ⟨p', o', e', _, _, hp, _⟩ := I.slot i _ hi
    rw [e] at e'
    cases e'
    rw [np] at hp
    cases hp
def oLst (f : DS → R (List D × DS)) (ds : DS) : R (Ct × DS) := (f ds).bind fun p => if p.1.length ≤ Ln then .ok (.l p.1, p.2) else .stuck
theorem eo_lst {es : List Expr} {f : DS → R (List D × DS)} {pos} (h : AD X W G es f) : EO X W G (.List es pos) (oLst f) := by
  obtain ⟨t, p, r⟩ := h.ex
  refine ⟨tLst t, pe_lst p, fun b O H σ ds Q I h => ?_⟩
  refine r b O H σ ds _ I (OPost.bind h fun d1 ds1 v1 H1 O1 _ I1 x1 r1 h1 => ?_)
  dsimp only at h1
  split at h1
  · rename_i hl
    exact ⟨by rw [r1.length, Ln_eq]; exact hl, fun p np => h1.made I1 np ⟨v1, rfl, r1, hl⟩⟩
  · exact h1.elim
def oC (c : Ct) (ds : DS) : R (Ct × DS) := .ok (c, ds)
/-- {}, its keys to be numbers or texts; tuples -/
theorem eo_dicK {pos : Pos} : EO X W G (.Dict [] [] pos) (oC (.d 0 [])) :=
  ⟨tDNewK, pe_dnewK, fun b O H σ ds Q I h => fun p np => OPost.made (c := .d 0 []) h I np ⟨Nat.zero_le _, .inl ⟨rfl, [], rfl, by unfold RepK; rfl⟩⟩⟩
theorem eo_dicT {pos : Pos} : EO X W G (.Dict [] [] pos) (oC (.d 1 [])) :=
  ⟨tDNewT, pe_dnewT, fun b O H σ ds Q I h => fun p np => OPost.made (c := .d 1 []) h I np ⟨Nat.zero_le _, .inr ⟨rfl, [], rfl, by unfold RepT; rfl⟩⟩⟩
/-- what a name owns, handed on -/
def oMove (i : Nat) (ds : DS) : R (Ct × DS) := match ds[i]? with
  | some (.own c) => if i ∈ ([] : List Nat) then .stuck else .ok (c, ds.set i .emp)
  | _ => .stuck
theorem get_set_ne {α : Type} {l : List α} {i j : Nat} {x : α} (h : i ≠ j) : (l.set i x)[j]? = l[j]? := List.getElem?_set_ne h
/-- a name's slot forgotten -/
theorem DI.forget {K : PySem.W.Frag} {b : Bx} {O : Addr → Bool} {H : Hp} {σ : L2.St} {ds : DS} {i : Nat} (I : DI K G b O H σ ds) (hi : i ∉ G.ps) : DI K G b O H σ (ds.set i .emp) := by
  have key : ∀ {j : Nat} {x : Sl}, (ds.set i .emp)[j]? = some x → (j = i ∧ x = .emp) ∨ (j ≠ i ∧ ds[j]? = some x) := fun {j x} h => by
    by_cases e : j = i
    · subst e
      left
      refine ⟨rfl, ?_⟩
      by_cases hl : j < ds.length
      · rw [List.getElem?_set_self hl] at h; cases h; rfl
      · rw [List.getElem?_eq_none (by simp; omega)] at h; cases h
    · exact .inr ⟨e, by rw [get_set_ne (Ne.symm e)] at h; exact h⟩
  refine ⟨by simpa using I.len, fun j x h => ?_, fun j k cj ck p h1 h2 h3 h4 => ?_, I.sub, fun q hq => ?_, I.pidx, I.trk, I.new, I.ent⟩
  · rcases key h with ⟨rfl, rfl⟩ | ⟨_, h⟩
    · trivial
    · exact I.slot j x h
  · rcases key h1 with ⟨_, e⟩ | ⟨_, h1⟩
    · cases e
    · rcases key h2 with ⟨_, e⟩ | ⟨_, h2⟩
      · cases e
      · exact I.sep j k cj ck p h1 h2 h3 h4
  · obtain ⟨e, c, hc⟩ := I.pin q hq
    refine ⟨e, c, ?_⟩
    rw [get_set_ne]
    · exact hc
    · intro z
      exact hi (by rw [← I.pidx, z]; exact List.mem_map_of_mem hq)
theorem DI.own1 {K : PySem.W.Frag} {b : Bx} {O : Addr → Bool} {H : Hp} {σ : L2.St} {ds : DS} {i : Nat} {c : Ct} (I : DI K G b O H σ ds) (hc : ds[i]? = some (.own c)) (hi : i ∉ G.ps) : ∃ p, σ[i]? = some (some (.ref p)) ∧ Own1 K G b O H σ (ds.set i .emp) p c := by
  obtain ⟨p, o, e, h1, h2, h3, h4⟩ := I.slot i _ hc
  refine ⟨p, e, h1, h2, fun j cj hj z => ?_, ⟨o, h3, h4⟩, ?_⟩
  · by_cases ej : j = i
    · subst ej
      rw [List.getElem?_set_self (List.getElem?_eq_some_iff.mp hc).1] at hj
      cases hj
    · rw [get_set_ne (Ne.symm ej)] at hj
      exact ej (I.sep j i cj c p hj hc z e)
  · rcases I.new p h1 with q | q | q
    · rw [h2] at q; cases q
    · obtain ⟨⟨k, p'⟩, hq, e'⟩ := List.mem_map.mp q
      have e' : p' = p := e'
      subst e'
      obtain ⟨e2, c2, hc2⟩ := I.pin _ hq
      have := I.sep k i c2 c p' hc2 hc e2 e
      subst this
      exact absurd (by rw [← I.pidx]; exact List.mem_map_of_mem (f := Prod.fst) hq) hi
    · exact q
theorem eo_move (i : Nat) {x : Str} {pos : Pos} (hi : i ∉ G.ps) (hN : X.N[i]? = some x := by rfl) (hv : Vis X.env.scope x := by first | exact Or.inl rfl | exact Or.inr (Or.inl rfl) | exact Or.inr (Or.inr rfl)) (hd : (x == ("__debug__" : Str)) = false := by decide)
    (hcd : (x == ("__classdict__" : Str)) = false := by decide) : EO X W G (.Name x pos) (oMove i) := by
  refine ⟨tVar i, pe_var hN hv hd hcd, fun b O H σ ds Q I h => ?_⟩
  unfold oMove at h
  split at h
  · rename_i c e
    simp only [List.not_mem_nil, if_false] at h
    obtain ⟨p, e1, w⟩ := I.own1 e hi
    exact ⟨_, e1, h p H O (I.forget hi) Ext.refl w⟩
  · exact h.elim

/-! ### statements -/
inductive Out where
  | stuck | nx (ds : DS) | rt (d : D) (ds : DS) | ro (c : Ct) (ds : DS) | bk (ds : DS) | ct (ds : DS) | exc (c : Nat) (ds : DS)
def SPost (K : PySem.W.Frag) (G : Gx) (b : Bx) (W : WX) (H : Hp) (O : Addr → Bool) (E : Ends) : Out → Prop
  | .stuck => False
  | .nx ds' => ∀ σ' H' O', DI K G b O' H' σ' ds' → Ext b H O H' O' → E.nx σ' H'
  | .bk ds' => ∀ σ' H' O', DI K G b O' H' σ' ds' → Ext b H O H' O' → E.bk σ' H'
  | .ct ds' => ∀ σ' H' O', DI K G b O' H' σ' ds' → Ext b H O H' O' → E.ct σ' H'
  | .rt d ds' => ∀ v σ' H' O', DI K G b O' H' σ' ds' → Ext b H O H' O' → Rep K (hide H' O') d v → E.rt v H'
  | .ro c ds' => ∀ p σ' H' O', DI K G b O' H' σ' ds' → Ext b H O H' O' → Own1 K G b O' H' σ' ds' p c → E.rt (.ref p) H'
  | .exc c ds' => ∀ x σ' H' O', DI K G b O' H' σ' ds' → Ext b H O H' O' → W (.ref (G.cm c)) x σ' H'
theorem SPost.step {K : PySem.W.Frag} {G : Gx} {b : Bx} {W : WX} {H H1 : Hp} {O O1 : Addr → Bool} {E : Ends} {r : Out} (h : SPost K G b W H O E r) (x : Ext b H O H1 O1) : SPost K G b W H1 O1 E r := by
  match r, h with
  | .nx ds', h => exact fun σ' H' O' I e => h σ' H' O' I (x.trans e)
  | .bk ds', h => exact fun σ' H' O' I e => h σ' H' O' I (x.trans e)
  | .ct ds', h => exact fun σ' H' O' I e => h σ' H' O' I (x.trans e)
  | .rt d ds', h => exact fun v σ' H' O' I e q => h v σ' H' O' I (x.trans e) q
  | .ro c ds', h => exact fun p σ' H' O' I e q => h p σ' H' O' I (x.trans e) q
  | .exc c ds', h => exact fun y σ' H' O' I e => h y σ' H' O' I (x.trans e)
structure SD (X : Cx) (W : WX) (G : Gx) (st : Stmt) (F : DS → Out) : Prop where
  ex : ∃ t, PS X st t ∧ ∀ b O H σ ds E, DI X.K G b O H σ ds → SPost X.K G b W H O E (F ds) → t E σ H
structure SDs (X : Cx) (W : WX) (G : Gx) (st : List Stmt) (F : DS → Out) : Prop where
  ex : ∃ t, PSs X st t ∧ ∀ b O H σ ds E, DI X.K G b O H σ ds → SPost X.K G b W H O E (F ds) → t E σ H
def sSeq (f g : DS → Out) (ds : DS) : Out := match f ds with
  | .nx ds' => g ds'
  | o => o
theorem SPost.seq {K : PySem.W.Frag} {G : Gx} {b : Bx} {W : WX} {H : Hp} {O : Addr → Bool} {E : Ends} {o : Out} {g : DS → Out} {N : L2.St → Hp → Prop}
    (h : SPost K G b W H O E (match o with | .nx ds' => g ds' | o => o)) (k : ∀ ds' σ' H' O', DI K G b O' H' σ' ds' → SPost K G b W H' O' E (g ds') → N σ' H') : SPost K G b W H O { E with nx := N } o := by
  match o, h with
  | .nx ds', h => exact fun σ' H' O' I e => k ds' σ' H' O' I (h.step e)
  | .bk _, h => exact h
  | .ct _, h => exact h
  | .rt _ _, h => exact h
  | .ro _ _, h => exact h
  | .exc _ _, h => exact h
theorem sd_cons {st : Stmt} {rest : List Stmt} {f g : DS → Out} (h : SD X W G st f) (k : SDs X W G rest g) : SDs X W G (st :: rest) (sSeq f g) := by
  obtain ⟨t, p, r⟩ := h.ex
  obtain ⟨u, q, s⟩ := k.ex
  refine ⟨tSeq t u, pss_cons p q, fun b O H σ ds E I h => ?_⟩
  exact r b O H σ ds _ I (SPost.seq (g := g) h fun ds' σ' H' O' I' h' => s b O' H' σ' ds' E I' h')
theorem sd_one {st : Stmt} {f : DS → Out} (h : SD X W G st f) : SDs X W G [st] f := let ⟨t, p, r⟩ := h.ex; ⟨t, pss_one p, r⟩
def sNx (ds : DS) : Out := .nx ds
theorem sd_nil : SDs X W G [] sNx := ⟨tNext, pss_nil, fun b O H σ ds E I h => h σ H O I Ext.refl⟩
theorem sd_pass {pos : Pos} : SD X W G (.Pass pos) sNx := ⟨tNext, ps_pass, fun b O H σ ds E I h => h σ H O I Ext.refl⟩
def sBk (ds : DS) : Out := .bk ds
def sCt (ds : DS) : Out := .ct ds
theorem sd_break {pos : Pos} : SD X W G (.Break pos) sBk := ⟨tBreak, ps_break, fun b O H σ ds E I h => h σ H O I Ext.refl⟩
theorem sd_continue {pos : Pos} : SD X W G (.Continue pos) sCt := ⟨tCont, ps_continue, fun b O H σ ds E I h => h σ H O I Ext.refl⟩

/-- an expression, then what is made of its value -/
def toOut {α : Type} (r : R (α × DS)) (k : α → DS → Out) : Out := match r with
  | .stuck => .stuck
  | .exc c ds => .exc c ds
  | .ok (a, ds) => k a ds
@[simp] theorem toOut_ok {α : Type} (a : α) (ds : DS) (k : α → DS → Out) : toOut (.ok (a, ds)) k = k a ds := rfl
@[simp] theorem toOut_stuck {α : Type} (k : α → DS → Out) : toOut .stuck k = .stuck := rfl
@[simp] theorem toOut_exc {α : Type} (c : Nat) (ds : DS) (k : α → DS → Out) : toOut (.exc c ds) k = .exc c ds := rfl
theorem SPost.eval {K : PySem.W.Frag} {G : Gx} {b : Bx} {W : WX} {α β : Type} {rel : Hp → α → β → Prop} {H : Hp} {O : Addr → Bool} {σ : L2.St} {E : Ends} {r : R (α × DS)} {k : α → DS → Out} {Q : β → Hp → Prop}
    (h : SPost K G b W H O E (toOut r k)) (f : ∀ d ds' v H' O', r = .ok (d, ds') → DI K G b O' H' σ ds' → Ext b H O H' O' → rel (hide H' O') d v → SPost K G b W H' O' E (k d ds') → Q v H') : EPost K G b W rel H O σ Q r := by
  match r, h with
  | .ok (d, ds'), h => exact fun v H' O' I e q => f d ds' v H' O' rfl I e q (h.step e)
  | .exc c ds', h => exact fun x H' O' I e => h x σ H' O' I e
theorem SPost.evalO {K : PySem.W.Frag} {G : Gx} {b : Bx} {W : WX} {H : Hp} {O : Addr → Bool} {σ : L2.St} {E : Ends} {r : R (Ct × DS)} {k : Ct → DS → Out} {Q : VK}
    (h : SPost K G b W H O E (toOut r k)) (f : ∀ c ds' p H' O', r = .ok (c, ds') → DI K G b O' H' σ ds' → Ext b H O H' O' → Own1 K G b O' H' σ ds' p c → SPost K G b W H' O' E (k c ds') → Q (.ref p) H') : OPost K G b W H O σ Q r := by
  match r, h with
  | .ok (d, ds'), h => exact fun v H' O' I e q => f d ds' v H' O' rfl I e q (h.step e)
  | .exc c ds', h => exact fun x H' O' I e => h x σ H' O' I e
def sExpr (f : DS → R (D × DS)) (ds : DS) : Out := toOut (f ds) fun _ ds' => .nx ds'
theorem sd_expr {e : Expr} {f : DS → R (D × DS)} {pos : Pos} (h : ED X W G e f) (hs : swapsWith e none pos.line X.env = pure false := by rfl) : SD X W G (.Expr e pos) (sExpr f) := by
  obtain ⟨t, p, r⟩ := h.ex
  exact ⟨tDrop t, ps_expr p hs, fun b O H σ ds E I h => r b O H σ ds _ I (SPost.eval h fun d ds' v H' O' _ I' _ _ h' => h' σ H' O' I' Ext.refl)⟩
def sRet (f : DS → R (D × DS)) (ds : DS) : Out := toOut (f ds) .rt
theorem sd_ret {e : Expr} {f : DS → R (D × DS)} {pos : Pos} (h : ED X W G e f) : SD X W G (.Return (some e) pos) (sRet f) := by
  obtain ⟨t, p, r⟩ := h.ex
  exact ⟨tRet t, ps_ret p, fun b O H σ ds E I h => r b O H σ ds _ I (SPost.eval h fun d ds' v H' O' _ I' _ q h' => h' v σ H' O' I' Ext.refl q)⟩
def sRetO (f : DS → R (Ct × DS)) (ds : DS) : Out := toOut (f ds) .ro
theorem sd_retO {e : Expr} {f : DS → R (Ct × DS)} {pos : Pos} (h : EO X W G e f) : SD X W G (.Return (some e) pos) (sRetO f) := by
  obtain ⟨t, p, r⟩ := h.ex
  exact ⟨tRet t, ps_ret p, fun b O H σ ds E I h => r b O H σ ds _ I (SPost.evalO h fun d ds' v H' O' _ I' _ q h' => h' v σ H' O' I' Ext.refl q)⟩
def sIf (t : DS → R (Bool × DS)) (f g : DS → Out) (ds : DS) : Out := toOut (t ds) fun b ds' => if b = true then f ds' else g ds'
theorem sd_if {c : Expr} {x y : List Stmt} {t : DS → R (Bool × DS)} {f g : DS → Out} {pos : Pos} (hc : TD X W G c t) (ha : SDs X W G x f) (hb : SDs X W G y g) : SD X W G (.If c x y pos) (sIf t f g) := by
  obtain ⟨tc, pc, rc⟩ := hc.ex
  obtain ⟨ta, pa, ra⟩ := ha.ex
  obtain ⟨tb, pb, rb⟩ := hb.ex
  refine ⟨tIfS tc ta tb, ps_if pc pa pb, fun b O H σ ds E I h => rc b O H σ ds _ I (SPost.eval (rel := relB) h fun d ds' v H' O' _ I' _ q h' => ?_)⟩
  cases (show d = v from q)
  cases d with
  | true => exact iteT (ra b O' H' σ ds' E I' h')
  | false => exact iteF (rb b O' H' σ ds' E I' h')

/-! ### names stored -/
theorem set_cases {α : Type} {l : List α} {i j : Nat} {x y : α} (h : (l.set i x)[j]? = some y) : (j = i ∧ y = x ∧ i < l.length) ∨ (j ≠ i ∧ l[j]? = some y) := by
  by_cases e : j = i
  · subst e
    by_cases hl : j < l.length
    · rw [List.getElem?_set_self hl] at h; cases h; exact .inl ⟨rfl, rfl, hl⟩
    · rw [List.getElem?_eq_none (by simp; omega)] at h; cases h
  · exact .inr ⟨e, by rw [get_set_ne (Ne.symm e)] at h; exact h⟩
theorem DI.setVal {K : PySem.W.Frag} {b : Bx} {O : Addr → Bool} {H : Hp} {σ : L2.St} {ds : DS} {i : Nat} {d : D} {v : V} (I : DI K G b O H σ ds) (hi : i ∉ G.ps) (r : Rep K (hide H O) d v) : DI K G b O H (σ.set i (some v)) (ds.set i (.val d)) := by
  refine ⟨by simpa using I.len, fun j x h => ?_, fun j k cj ck p h1 h2 h3 h4 => ?_, I.sub, fun q hq => ?_, I.pidx, I.trk, I.new, I.ent⟩
  · rcases set_cases h with ⟨rfl, rfl, hl⟩ | ⟨hj, h⟩
    · exact ⟨v, by rw [List.getElem?_set_self (by rw [I.len]; exact hl)], r⟩
    · rw [get_set_ne (Ne.symm hj)]; exact I.slot j x h
  · rcases set_cases h1 with ⟨_, e, _⟩ | ⟨n1, h1⟩
    · cases e
    · rcases set_cases h2 with ⟨_, e, _⟩ | ⟨n2, h2⟩
      · cases e
      · rw [get_set_ne (Ne.symm n1)] at h3
        rw [get_set_ne (Ne.symm n2)] at h4
        exact I.sep j k cj ck p h1 h2 h3 h4
  · obtain ⟨e, c, hc⟩ := I.pin q hq
    have ne : i ≠ q.1 := fun z => hi (by rw [← I.pidx, z]; exact List.mem_map_of_mem hq)
    exact ⟨by rw [get_set_ne ne]; exact e, c, by rw [get_set_ne ne]; exact hc⟩
theorem DI.setOwn {K : PySem.W.Frag} {b : Bx} {O : Addr → Bool} {H : Hp} {σ : L2.St} {ds : DS} {i : Nat} {c : Ct} {p : Addr} (I : DI K G b O H σ ds) (hi : i ∉ G.ps) (w : Own1 K G b O H σ ds p c) : DI K G b O H (σ.set i (some (.ref p))) (ds.set i (.own c)) := by
  refine ⟨by simpa using I.len, fun j x h => ?_, fun j k cj ck p' h1 h2 h3 h4 => ?_, I.sub, fun q hq => ?_, I.pidx, I.trk, I.new, I.ent⟩
  · rcases set_cases h with ⟨rfl, rfl, hl⟩ | ⟨hj, h⟩
    · obtain ⟨o, e1, e2⟩ := w.at_
      exact ⟨p, o, by rw [List.getElem?_set_self (by rw [I.len]; exact hl)], w.o, w.nb, e1, e2⟩
    · rw [get_set_ne (Ne.symm hj)]; exact I.slot j x h
  · rcases set_cases h1 with ⟨e1, _, l1⟩ | ⟨n1, h1⟩
    · subst e1
      rw [List.getElem?_set_self (by rw [I.len]; exact l1)] at h3
      cases h3
      rcases set_cases h2 with ⟨e2, _, _⟩ | ⟨n2, h2⟩
      · exact e2.symm
      · rw [get_set_ne (Ne.symm n2)] at h4
        exact absurd h4 (w.no k ck h2)
    · rw [get_set_ne (Ne.symm n1)] at h3
      rcases set_cases h2 with ⟨e2, _, l2⟩ | ⟨n2, h2⟩
      · rw [e2, List.getElem?_set_self (by rw [I.len]; exact l2)] at h4
        cases h4
        exact absurd h3 (w.no j cj h1)
      · rw [get_set_ne (Ne.symm n2)] at h4
        exact I.sep j k cj ck p' h1 h2 h3 h4
  · obtain ⟨e, c, hc⟩ := I.pin q hq
    have ne : i ≠ q.1 := fun z => hi (by rw [← I.pidx, z]; exact List.mem_map_of_mem hq)
    exact ⟨by rw [get_set_ne ne]; exact e, c, by rw [get_set_ne ne]; exact hc⟩
/-- the frames agree but at some places -/
structure Agree (js : List Nat) (σ σ' : L2.St) : Prop where
  len : σ'.length = σ.length
  out : ∀ j, j ∉ js → σ'[j]? = σ[j]?
/-- what a target does with a datum -/
abbrev TgF := D → DS → Option DS
structure GD (X : Cx) (G : Gx) (tg : Expr) (js : List Nat) (F : TgF) : Prop where
  ex : ∃ g, PG X tg g ∧ ∀ b O H σ ds v d ds' Q, DI X.K G b O H σ ds → Rep X.K (hide H O) d v → F d ds = some ds' → (∀ σ', DI X.K G b O H σ' ds' → Agree js σ σ' → Q σ' H) → g v σ H Q
def gSet (i : Nat) : TgF := fun d ds => some (ds.set i (.val d))
theorem gd_name (i : Nat) {x : Str} {pos : Pos} (hN : X.N.Nodup) (hp : i ∉ G.ps := by first | decide | exact of_decide_eq_true rfl) (hi : X.N[i]? = some x := by rfl) (hx : Loc X.env.scope x := by first | exact Or.inl rfl | exact Or.inr rfl) (hf : X.fn x = true ∨ X.env.scope.names.lookup x = some .local := by first | exact .inl rfl | exact .inr rfl) : GD X G (.Name x pos) [i] (gSet i) := by
  refine ⟨gName i, pg_name hN hi hx hf, fun b O H σ ds v d ds' Q I r e k => ?_⟩
  unfold gSet at e
  cases e
  exact k _ (I.setVal hp r) ⟨by simp, fun j hj => get_set_ne fun z => hj (by simp [z])⟩
abbrev TgFs := List D → DS → Option DS
structure GDs (X : Cx) (G : Gx) (tg : List Expr) (js : List Nat) (F : TgFs) : Prop where
  ex : ∃ g, PGs X tg g ∧ ∀ b O H σ ds vs l ds' Q, DI X.K G b O H σ ds → RepL X.K (hide H O) l vs → F l ds = some ds' → (∀ σ', DI X.K G b O H σ' ds' → Agree js σ σ' → Q σ' H) → g vs σ H Q
def gNilD : TgFs := fun l ds => match l with
  | [] => some ds
  | _ => none
def gConsD (f : TgF) (g : TgFs) : TgFs := fun l ds => match l with
  | [] => none
  | d :: r => (f d ds).bind (g r)
theorem gd_nil : GDs X G [] [] gNilD := by
  refine ⟨gNil, pgs_nil, fun b O H σ ds vs l ds' Q I r e k => ?_⟩
  cases l with
  | nil =>
    simp only [gNilD, Option.some.injEq] at e
    subst e
    unfold RepL at r
    exact ⟨r, k σ I ⟨rfl, fun _ _ => rfl⟩⟩
  | cons _ _ => cases e
theorem gd_cons {tg : Expr} {ts : List Expr} {js ks : List Nat} {f : TgF} {g : TgFs} (h : GD X G tg js f) (k : GDs X G ts ks g) (hs : (assignEach (tg :: ts) X.env).map (·.2) = assign tg X.env :: (assignEach ts X.env).map (·.2) := by rfl) : GDs X G (tg :: ts) (js ++ ks) (gConsD f g) := by
  obtain ⟨t, p, r⟩ := h.ex
  obtain ⟨u, q, s⟩ := k.ex
  refine ⟨gCons t u, pgs_cons p q hs, fun b O H σ ds vs l ds' Q I hr e kk => ?_⟩
  cases l with
  | nil => cases e
  | cons d l =>
    unfold RepL at hr
    obtain ⟨x, xs, rfl, h1, h2⟩ := hr
    simp only [gConsD] at e
    obtain ⟨ds1, e1, e2⟩ := Option.bind_eq_some_iff.mp e
    exact ⟨x, xs, rfl, r b O H σ ds x d ds1 _ I h1 e1 fun σ1 I1 k1 => s b O H σ1 ds1 xs l ds' Q I1 h2 e2 fun σ2 I2 k2 => kk σ2 I2 ⟨k2.len.trans k1.len, fun j hj => (k2.out j fun z => hj (List.mem_append_right _ z)).trans (k1.out j fun z => hj (List.mem_append_left _ z))⟩⟩
def gTupD (n : Nat) (g : TgFs) : TgF := fun d ds => match d with
  | .tup l => if l.length = n then g l ds else none
  | _ => none
theorem gd_tup {es : List Expr} {k : Nat} {pos : Pos} {js : List Nat} {g : TgFs} (n : Nat) (h : GDs X G es js g) (hc : X.calm = true := by rfl)
    (hn : (assignEach es X.env).length = n := by rfl) (hst : (assignEach es X.env).findIdx? (·.1) = none := by rfl) : GD X G (.Tuple es k pos) js (gTupD n g) := by
  obtain ⟨t, p, r⟩ := h.ex
  refine ⟨gTup X.K n t, pg_tup hc p hn hst, fun b O H σ ds v d ds' Q I hr e kk => ?_⟩
  cases d with
  | tup l =>
    simp only [gTupD] at e
    split at e
    · rename_i hl
      unfold Rep at hr
      obtain ⟨a, xs, rfl, h1, h2, _⟩ := hr
      exact ⟨a, xs, rfl, SqT.of (hide_of h1).1, by rw [h2.length]; exact hl, r b O H σ ds xs l ds' Q I h2 e kk⟩
    · cases e
  | _ => cases e
/-- target = e -/
def sAsg (f : DS → R (D × DS)) (g : TgF) (ds : DS) : Out := toOut (f ds) fun d ds' => match g d ds' with
  | some ds2 => .nx ds2
  | none => .stuck
theorem sd_asg {tg e : Expr} {f : DS → R (D × DS)} {js : List Nat} {g : TgF} {pos : Pos} (he : ED X W G e f) (hg : GD X G tg js g) (hs : swapsWithSole [tg] e pos.line X.env = pure false := by rfl) (hw : swappedStores [tg] e X.env = pure none := by rfl) (h1 : (assignEach [tg] X.env).map (·.2) = [assign tg X.env] := by rfl) : SD X W G (.Assign [tg] e pos) (sAsg f g) := by
  obtain ⟨t, p, r⟩ := he.ex
  obtain ⟨u, q, s⟩ := hg.ex
  refine ⟨tAsg t u, ps_asg p q hs hw h1, fun b O H σ ds E I h => r b O H σ ds _ I (SPost.eval h fun d ds' v H' O' _ I' _ hr h' => ?_)⟩
  cases e2 : g d ds' with
  | none => rw [e2] at h'; exact h'.elim
  | some ds2 =>
    rw [e2] at h'
    exact s b O' H' σ ds' v d ds2 _ I' hr e2 fun σ' I2 _ => h' σ' H' O' I2 Ext.refl
/-- x = what is new -/
def sSetO (i : Nat) (f : DS → R (Ct × DS)) (ds : DS) : Out := toOut (f ds) fun c ds' => .nx (ds'.set i (.own c))
theorem sd_setO (i : Nat) {x : Str} {e : Expr} {f : DS → R (Ct × DS)} {pos pos' : Pos} (he : EO X W G e f) (hN : X.N.Nodup) (hp : i ∉ G.ps := by first | decide | exact of_decide_eq_true rfl) (hi : X.N[i]? = some x := by rfl) (hx : Loc X.env.scope x := by first | exact Or.inl rfl | exact Or.inr rfl)
    (hs : swapsWith e (some (.Name x pos')) pos.line X.env = pure false := by rfl) (hf : X.fn x = true ∨ X.env.scope.names.lookup x = some .local := by first | exact .inl rfl | exact .inr rfl) : SD X W G (.Assign [.Name x pos'] e pos) (sSetO i f) := by
  obtain ⟨t, p, r⟩ := he.ex
  refine ⟨tAsg t (gName i), ps_set hN hi hx p hs hf, fun b O H σ ds E I h => r b O H σ ds _ I (SPost.evalO h fun c ds' p H' O' _ I' _ w h' => h' _ H' O' (I'.setOwn hp w) Ext.refl)⟩
end
end DL

/-! DD: loops, defs and their calls -/
namespace DL
open PySem L2

/-! ### what is walked -/
structure ItD (K : PySem.W.Frag) (h1 : Hp) (items : List D) (J : It) : Prop where
  len : items.length ≤ Ln
  go : ∀ (H2 : Hp) (O2 : Addr → Bool), Same h1 (hide H2 O2) → (∀ p, H2 p = none → O2 p = false) → ∀ i : Nat, i < items.length → J.go i H2 ∧ ∀ x H3, J.yld i H2 x H3 → Same H2 H3 ∧ ∀ d, items[i]? = some d → Rep K (hide H3 O2) d x
  stop : ∀ (H2 : Hp) (O2 : Addr → Bool), Same h1 (hide H2 O2) → J.stop items.length H2
structure ID (X : Cx) (W : WX) (G : Gx) (tg e : Expr) (f : DS → R (List D × DS)) : Prop where
  ex : ∃ wi, PI X tg e wi ∧ ∀ b O H σ ds Rr, DI X.K G b O H σ ds → EPost X.K G b W (ItD X.K) H O σ Rr (f ds) → wi σ H Rr
section
variable {X : Cx} {W : WX} {G : Gx}
theorem itd_tup {K : PySem.W.Frag} {h1 : Hp} {a : Addr} {xs : List V} {ds : List D} (h : SqT K h1 a xs) (r : RepL K h1 ds xs) (l : ds.length ≤ Ln) : ItD K h1 ds (Itt K a) := by
  have there : ∀ (H2 : Hp) (O2 : Addr → Bool), Same h1 (hide H2 O2) → SqT K H2 a xs := fun H2 O2 s => SqT.monoR SameR.hide_all (SqT.monoR (SameR.of s) h)
  refine ⟨l, fun H2 O2 s hO i hi => ?_, fun H2 O2 s => ⟨xs, there H2 O2 s, by rw [r.length]; exact Nat.le_refl _⟩⟩
  obtain ⟨x, e, rx⟩ := r.get (List.getElem?_eq_getElem hi)
  refine ⟨⟨xs, x, there H2 O2 s, e⟩, fun y H3 q => ?_⟩
  obtain ⟨rfl, q⟩ := q
  have e2 := q xs (there _ O2 s)
  rw [e] at e2
  cases e2
  exact ⟨Same.refl _, fun d hd => by rw [List.getElem?_eq_getElem hi] at hd; cases hd; exact Rep.mono (SameR.of s) _ _ rx⟩
theorem itd_str {K : PySem.W.Frag} {h1 : Hp} {s : List Nat} (hs : okS s = true) : ItD K h1 (s.map fun c => .str [c]) (Its (sv s)) := by
  have sz : (sv s).cps.size = s.length := by simp [sv]
  refine ⟨by rw [List.length_map]; exact okS_len hs, fun H2 O2 q hO i hi => ?_, fun H2 O2 q => ?_⟩
  · rw [List.length_map] at hi
    refine ⟨(by show i < (sv s).cps.size; rw [sz]; exact hi), fun x H3 y => ?_⟩
    obtain ⟨rfl, c, e, rfl⟩ := y
    refine ⟨Same.refl _, fun d hd => ?_⟩
    have e' : s[i]? = some c := by simpa [sv] using e
    rw [List.getElem?_map, e'] at hd
    cases hd
    refine rep_str rfl (okS_mk (by show 1 ≤ Ln; decide) fun c' hc' => ?_)
    rw [List.mem_singleton] at hc'
    subst hc'
    exact okS_asc hs _ (List.mem_of_getElem? e')
  · show (sv s).cps.size ≤ _
    rw [sz, List.length_map]
    exact Nat.le_refl _
theorem pi_or {tg e : Expr} {w1 w2 : TI} (h1 : PI X tg e w1) (h2 : PI X tg e w2) : PI X tg e (fun σ H R => w1 σ H R ∨ w2 σ H R) :=
  ⟨fun pins s σ H R I h => h.elim (h1.run pins s σ H R I) (h2.run pins s σ H R I)⟩
def iSeq (f : DS → R (D × DS)) (ds : DS) : R (List D × DS) := (f ds).bind fun p => match p.1 with
  | .lst l => .ok (l, p.2)
  | .tup l => .ok (l, p.2)
  | .str s => .ok (s.map fun c => .str [c], p.2)
  | _ => .stuck
/-- over a list, a tuple, a text -/
theorem id_seq {tg e : Expr} {f : DS → R (D × DS)} (h : ED X W G e f) : ID X W G tg e (iSeq f) := by
  obtain ⟨t, p, r⟩ := h.ex
  refine ⟨_, pi_or (pi_list p) (pi_or (pi_tup p) (pi_str p)), fun b O H σ ds Rr I h => ?_⟩
  match q : f ds, h with
  | .stuck, h => unfold iSeq at h; rw [q] at h; exact h.elim
  | .exc c ds', h => unfold iSeq at h; rw [q] at h; exact .inl (r b O H σ ds _ I (by rw [q]; exact h))
  | .ok (.lst l, ds'), h =>
    unfold iSeq at h; rw [q] at h
    refine .inl (r b O H σ ds _ I ?_)
    rw [q]
    intro v H' O' I' x rv
    have rv : Rep X.K (hide H' O') (.lst l) v := rv
    unfold Rep at rv
    obtain ⟨a, xs, rfl, e1, e2, e3⟩ := rv
    refine ⟨a, rfl, ⟨xs, SqL.of (hide_of e1).1⟩, h _ H' O' I' x ?_⟩
    refine ⟨e3, fun H2 O2 s hO i hi => ?_, fun H2 O2 s => ⟨xs, SqL.of (hide_of (s a _ e1)).1, by rw [e2.length]; exact Nat.le_refl _⟩⟩
    obtain ⟨x, e, rx⟩ := e2.get (List.getElem?_eq_getElem hi)
    refine ⟨⟨xs, x, SqL.of (hide_of (s a _ e1)).1, e⟩, fun y H3 q => ?_⟩
    obtain ⟨rfl, q⟩ := q
    have e2 := q xs (SqL.of (hide_of (s a _ e1)).1)
    rw [e] at e2
    cases e2
    exact ⟨Same.refl _, fun d hd => by rw [List.getElem?_eq_getElem hi] at hd; cases hd; exact Rep.mono (SameR.of s) _ _ rx⟩
  | .ok (.tup l, ds'), h =>
    unfold iSeq at h; rw [q] at h
    refine .inr (.inl (r b O H σ ds _ I ?_))
    rw [q]
    intro v H' O' I' x rv
    have rv : Rep X.K (hide H' O') (.tup l) v := rv
    unfold Rep at rv
    obtain ⟨a, xs, rfl, e1, e2, e3⟩ := rv
    exact ⟨a, rfl, ⟨xs, SqT.of (hide_of e1).1⟩, h _ H' O' I' x (itd_tup (SqT.of e1) e2 e3)⟩
  | .ok (.str s, ds'), h =>
    unfold iSeq at h; rw [q] at h
    refine .inr (.inr (r b O H σ ds _ I ?_))
    rw [q]
    intro v H' O' I' x rv
    have rv : Rep X.K (hide H' O') (.str s) v := rv
    unfold Rep at rv
    obtain ⟨rfl, hs⟩ := rv
    exact ⟨sv s, rfl, h _ H' O' I' x (itd_str hs)⟩
  | .ok (.non, ds'), h => unfold iSeq at h; rw [q] at h; exact h.elim
  | .ok (.bl _, ds'), h => unfold iSeq at h; rw [q] at h; exact h.elim
  | .ok (.int _, ds'), h => unfold iSeq at h; rw [q] at h; exact h.elim
  | .ok (.dic _ _, ds'), h => unfold iSeq at h; rw [q] at h; exact h.elim
  | .ok (.op _, ds'), h => unfold iSeq at h; rw [q] at h; exact h.elim
  | .ok (.scr _, ds'), h => unfold iSeq at h; rw [q] at h; exact h.elim
  | .ok (.ktup _, ds'), h => unfold iSeq at h; rw [q] at h; exact h.elim

/-! ### for -/
def loopK (k : DS → Out) : Out → Out
  | .nx ds => k ds
  | .ct ds => k ds
  | .bk ds => .nx ds
  | o => o
theorem SPost.loop {K : PySem.W.Frag} {b : Bx} {H : Hp} {O : Addr → Bool} {E : Ends} {o : Out} {k : DS → Out} {N : L2.St → Hp → Prop}
    (h : SPost K G b W H O E (loopK k o)) (f : ∀ ds' σ' H' O', DI K G b O' H' σ' ds' → Ext b H O H' O' → SPost K G b W H' O' E (k ds') → N σ' H') : SPost K G b W H O { E with nx := N, ct := N, bk := E.nx } o := by
  match o, h with
  | .nx ds', h => exact fun σ' H' O' I e => f ds' σ' H' O' I e (SPost.step (r := k ds') h e)
  | .ct ds', h => exact fun σ' H' O' I e => f ds' σ' H' O' I e (SPost.step (r := k ds') h e)
  | .bk _, h => exact h
  | .rt _ _, h => exact h
  | .ro _ _, h => exact h
  | .exc _ _, h => exact h
def forD (g : TgF) (body : DS → Out) : List D → DS → Out
  | [], ds => .nx ds
  | x :: xs, ds => match g x ds with
    | none => .stuck
    | some ds1 => loopK (forD g body xs) (body ds1)
def sFor (fi : DS → R (List D × DS)) (g : TgF) (body : DS → Out) (ds : DS) : Out := toOut (fi ds) fun items ds' => forD g body items ds'
theorem drop_cons {α : Type} {l : List α} {i : Nat} (h : i < l.length) : l.drop i = l[i] :: l.drop (i + 1) := List.drop_eq_getElem_cons h
theorem for_run {K : PySem.W.Frag} {Lk : L2.St → Hp → Prop} {wi : TI} {tg' : TG} {tb : TS} {fi : DS → R (List D × DS)} {g : TgF} {fb : DS → Out}
    (ri : ∀ b O H σ ds Rr, Lk σ H → DI K G b O H σ ds → EPost K G b W (ItD K) H O σ Rr (fi ds) → wi σ H Rr)
    (rg : ∀ b O H σ ds v d ds' Q, DI K G b O H σ ds → Rep K (hide H O) d v → g d ds = some ds' → (∀ σ', DI K G b O H σ' ds' → Q σ' H) → tg' v σ H Q)
    (rb : ∀ b O H σ ds E, DI K G b O H σ ds → SPost K G b W H O E (fb ds) → tb E σ H) :
    ∀ b O H σ ds E, Lk σ H → DI K G b O H σ ds → SPost K G b W H O E (sFor fi g fb ds) → tFor wi tg' tb E σ H := by
  intro b O H σ ds E lk I h
  refine ri b O H σ ds _ lk I (SPost.eval h fun items ds1 J H1 O1 _ I1 _ it h1 => ?_)
  refine ⟨fun i m σ H => m = items.length - i ∧ i ≤ items.length ∧ ∃ O ds, DI K G b O H σ ds ∧ Ext b H1 O1 H O ∧ SPost K G b W H O E (forD g fb (items.drop i) ds), ⟨_, rfl, Nat.zero_le _, O1, ds1, I1, Ext.refl, by simpa using h1⟩, ?_⟩
  rintro i m σ2 H2 ⟨rfl, hle, O2, ds2, I2, x2, h2⟩
  by_cases hlt : i < items.length
  · right
    obtain ⟨g1, g2⟩ := it.go H2 O2 x2.sm (fun p np => fresh_O I2 np) i hlt
    refine ⟨g1, _, fun σ' H' q => ⟨items.length - (i + 1), by omega, q⟩, fun x H3 y => ?_⟩
    obtain ⟨s3, rx⟩ := g2 x H3 y
    have I3 := I2.new' s3
    have x3 := Ext.new I2 s3
    rw [drop_cons hlt] at h2
    unfold forD at h2
    cases e1 : g items[i] ds2 with
    | none => rw [e1] at h2; exact h2.elim
    | some ds3 =>
      rw [e1] at h2
      refine rg b O2 H3 σ2 ds2 x _ ds3 _ I3 (rx _ (List.getElem?_eq_getElem hlt)) e1 fun σ3 I4 => ?_
      exact rb b O2 H3 σ3 ds3 _ I4 (SPost.loop (k := forD g fb (items.drop (i + 1))) (SPost.step h2 x3) fun ds' σ' H' O' I' x' h' => ⟨rfl, hlt, O', ds', I', (x2.trans x3).trans x', h'⟩)
  · left
    have e : i = items.length := by omega
    subst e
    refine ⟨it.stop H2 O2 x2.sm, ?_⟩
    rw [List.drop_length] at h2
    exact h2 σ2 H2 O2 I2 Ext.refl

theorem sd_for {tg iter : Expr} {body : List Stmt} {fi : DS → R (List D × DS)} {js : List Nat} {g : TgF} {fb : DS → Out} {pos : Pos} (hp : PassesOwn (model X.prog X.w) X.A X.env X.xe) (hi : ID X W G tg iter fi) (hg : GD X G tg js g) (hb : SDs X W G body fb) (hc : X.calm = true := by rfl)
    (hs : ∀ x, foldedSetIterable iter X.env x = pure x := by intro _; rfl) : SD X W G (.For tg iter body [] pos) (sFor fi g fb) := by
  obtain ⟨wi, pi, ri⟩ := hi.ex
  obtain ⟨tg', pg, rg⟩ := hg.ex
  obtain ⟨tb, pb, rb⟩ := hb.ex
  exact ⟨tFor wi tg' tb, ps_for hp hc pi pg pb hs, fun b O H σ ds E I h => for_run (Lk := fun _ _ => True) (fun b O H σ ds Rr _ => ri b O H σ ds Rr) (fun b O H σ ds v d ds' Q I r e k => rg b O H σ ds v d ds' Q I r e fun σ' I' _ => k σ' I') rb b O H σ ds E trivial I h⟩

/-! ### while -/
def whileD (t : DS → R (Bool × DS)) (body : DS → Out) : Nat → DS → Out
  | 0, _ => .stuck
  | n + 1, ds => toOut (t ds) fun b ds1 => if b = true then loopK (whileD t body n) (body ds1) else .nx ds1
theorem sd_while {c : Expr} {body : List Stmt} {t : DS → R (Bool × DS)} {fb : DS → Out} {pos : Pos} (n : Nat) (hp : PassesOwn (model X.prog X.w) X.A X.env X.xe) (hc : TD X W G c t) (hb : SDs X W G body fb) : SD X W G (.While c body [] pos) (whileD t fb n) := by
  obtain ⟨tc, pc, rc⟩ := hc.ex
  obtain ⟨tb, pb, rb⟩ := hb.ex
  refine ⟨tWhile tc tb, ps_while hp pc pb, fun b O H σ ds E I h => ?_⟩
  refine ⟨fun m σ H => ∃ O ds, DI X.K G b O H σ ds ∧ SPost X.K G b W H O E (whileD t fb m ds), ⟨n, O, ds, I, h⟩, ?_⟩
  rintro m σ2 H2 ⟨O2, ds2, I2, h2⟩
  cases m with
  | zero => exact h2.elim
  | succ m =>
    unfold whileD at h2
    refine rc b O2 H2 σ2 ds2 _ I2 (SPost.eval (rel := relB) h2 fun d ds3 v H3 O3 _ I3 x3 q h3 => ?_)
    cases (show d = v from q)
    cases d with
    | false => exact iteF (h3 σ2 H3 O3 I3 Ext.refl)
    | true =>
      exact iteT ⟨fun σ' H' => ∃ O ds, DI X.K G b O H' σ' ds ∧ SPost X.K G b W H' O E (whileD t fb m ds), fun σ' H' q => ⟨m, Nat.lt_succ_self _, q⟩,
        rb b O3 H3 σ2 ds3 _ I3 (SPost.loop (k := whileD t fb m) h3 fun ds' σ' H' O' I' x' h' => ⟨O', ds', I', h'⟩)⟩
end

/-! ### defs -/
inductive Res where
  | stuck | ret (d : D) (cs : List Ct) | reto (c : Ct) (cs : List Ct) | exc (c : Nat) (cs : List Ct)
inductive ArgsR (K : PySem.W.Frag) (cm : Nat → Addr) (O : Addr → Bool) (H : Hp) : List V → List Sl → List Addr → Prop
  | nil : ArgsR K cm O H [] [] []
  | val {v : V} {d : D} {vs : List V} {as : List Sl} {ps : List Addr} : Rep K (hide H O) d v → ArgsR K cm O H vs as ps → ArgsR K cm O H (v :: vs) (.val d :: as) ps
  | own {p : Addr} {o : HO} {c : Ct} {vs : List V} {as : List Sl} {ps : List Addr} : O p = true → H p = some o → CtR K cm (hide H O) c o → ArgsR K cm O H vs as ps → ArgsR K cm O H (.ref p :: vs) (.own c :: as) (p :: ps)
def ownIx : Nat → List Sl → List Nat
  | _, [] => []
  | n, .own _ :: r => n :: ownIx (n + 1) r
  | n, .val _ :: r => ownIx (n + 1) r
  | n, .emp :: r => ownIx (n + 1) r
structure Back (K : PySem.W.Frag) (cm : Nat → Addr) (O O' : Addr → Bool) (ps : List Addr) (cs : List Ct) (H H' : Hp) : Prop where
  keep : ∀ a, O a = true → a ∉ ps → H' a = H a
  sm : Same (hide H O) (hide H' O')
  non : ∀ a, H' a = none → H a = none
  fz : ∀ a o u, H a = some (.frz o u) → H' a = some (.frz o u)
  cts : Paired (fun p c => ∃ o, H' p = some o ∧ CtR K cm (hide H' O') c o) ps cs
theorem Back.same {K : PySem.W.Frag} {cm : Nat → Addr} {O O' : Addr → Bool} {ps : List Addr} {cs : List Ct} {H H' : Hp} (x : Back K cm O O' ps cs H H') : SameR (hide H O) (hide H' O') := SameR.of x.sm
def RPost (K : PySem.W.Frag) (cm : Nat → Addr) (O : Addr → Bool) (ps : List Addr) (H : Hp) (Q : VK) (E : XK) : Res → Prop
  | .stuck => False
  | .ret d cs => ∀ v H', Back K cm O O ps cs H H' → Rep K (hide H' O) d v → Q v H'
  | .reto c cs => ∀ p o H', Back K cm O (addO O p) ps cs H H' → H p = none → H' p = some o → CtR K cm (hide H' (addO O p)) c o → Q (.ref p) H'
  | .exc c cs => ∀ x H', Back K cm O O ps cs H H' → E (.ref (cm c)) x H'
def spD (K : PySem.W.Frag) (cm : Nat → Addr) (n : Nat) (F : Nat → List Sl → Res) : Sp := fun vs H Q E => ∃ (fuel : Nat) (O : Addr → Bool) (as : List Sl) (ps : List Addr), vs.length = n ∧ (∀ a, O a = true → H a ≠ none) ∧ ps.Nodup ∧ ArgsR K cm O H vs as ps ∧ RPost K cm O ps H Q E (F fuel as)
def outsOf : List Nat → DS → Option (List Ct)
  | [], _ => some []
  | i :: r, ds => match ds[i]?, outsOf r ds with
    | some (.own c), some cs => some (c :: cs)
    | _, _ => none
def finish (ps : List Nat) : Out → Res
  | .nx ds => match outsOf ps ds with
    | some cs => .ret .non cs
    | none => .stuck
  | .rt d ds => match outsOf ps ds with
    | some cs => .ret d cs
    | none => .stuck
  | .ro c ds => match outsOf ps ds with
    | some cs => .reto c cs
    | none => .stuck
  | .exc c ds => match outsOf ps ds with
    | some cs => .exc c cs
    | none => .stuck
  | _ => .stuck
def defD (ps : List Nat) (n : Nat) (body : Nat → DS → Out) (fuel : Nat) (as : List Sl) : Res := if ownIx 0 as = ps then finish ps (body fuel (as ++ List.replicate (n - as.length) .emp)) else .stuck

section
variable {K : PySem.W.Frag} {cm : Nat → Addr} {O : Addr → Bool} {H : Hp}
theorem ArgsR.length {vs : List V} {as : List Sl} {ps : List Addr} (h : ArgsR K cm O H vs as ps) : vs.length = as.length := by
  induction h with
  | nil => rfl
  | val _ _ ih => simp [ih]
  | own _ _ _ _ ih => simp [ih]
theorem ArgsR.plen {vs : List V} {as : List Sl} {ps : List Addr} (h : ArgsR K cm O H vs as ps) : ∀ n, (ownIx n as).length = ps.length := by
  induction h with
  | nil => intro n; rfl
  | val _ _ ih => intro n; simpa [ownIx] using ih (n + 1)
  | own _ _ _ _ ih => intro n; simpa [ownIx] using ih (n + 1)
theorem ArgsR.slot {vs : List V} {as : List Sl} {ps : List Addr} (h : ArgsR K cm O H vs as ps) : ∀ (i : Nat) (s : Sl), as[i]? = some s → ∃ v, vs[i]? = some v ∧ match s with
    | .val d => Rep K (hide H O) d v
    | .own c => ∃ p o, v = .ref p ∧ O p = true ∧ H p = some o ∧ CtR K cm (hide H O) c o ∧ p ∈ ps
    | .emp => False := by
  induction h with
  | nil => intro i s e; simp at e
  | @val v d vs as ps r t ih =>
    intro i s e
    cases i with
    | zero => simp at e; subst e; exact ⟨v, rfl, r⟩
    | succ i => obtain ⟨w, e1, e2⟩ := ih i s (by simpa using e); exact ⟨w, by simpa using e1, e2⟩
  | @own p o c vs as ps h1 h2 h3 t ih =>
    intro i s e
    cases i with
    | zero => simp at e; subst e; exact ⟨_, rfl, p, o, rfl, h1, h2, h3, List.mem_cons_self⟩
    | succ i =>
      obtain ⟨w, e1, e2⟩ := ih i s (by simpa using e)
      refine ⟨w, by simpa using e1, ?_⟩
      cases s with
      | val d => exact e2
      | emp => exact e2
      | own c => obtain ⟨p', o', a1, a2, a3, a4, a5⟩ := e2; exact ⟨p', o', a1, a2, a3, a4, List.mem_cons_of_mem _ a5⟩
theorem ArgsR.pin {vs : List V} {as : List Sl} {ps : List Addr} (h : ArgsR K cm O H vs as ps) : ∀ n, ∀ q ∈ (ownIx n as).zip ps, n ≤ q.1 ∧ vs[q.1 - n]? = some (.ref q.2) ∧ ∃ c, as[q.1 - n]? = some (.own c) := by
  induction h with
  | nil => intro n q hq; simp [ownIx] at hq
  | @val v d vs as ps r t ih =>
    intro n q hq
    obtain ⟨h1, h2, c, h3⟩ := ih (n + 1) q (by simpa [ownIx] using hq)
    have e : q.1 - n = (q.1 - (n + 1)) + 1 := by omega
    exact ⟨by omega, by rw [e]; simpa using h2, c, by rw [e]; simpa using h3⟩
  | @own p o c vs as ps h1 h2 h3 t ih =>
    intro n q hq
    simp only [ownIx, List.zip_cons_cons, List.mem_cons] at hq
    rcases hq with rfl | hq
    · exact ⟨Nat.le_refl _, by simp, c, by simp⟩
    · obtain ⟨h1, h2, c, h3⟩ := ih (n + 1) q hq
      have e : q.1 - n = (q.1 - (n + 1)) + 1 := by omega
      exact ⟨by omega, by rw [e]; simpa using h2, c, by rw [e]; simpa using h3⟩
theorem ArgsR.mem {vs : List V} {as : List Sl} {ps : List Addr} (h : ArgsR K cm O H vs as ps) : ∀ n (i : Nat) (c : Ct) (p : Addr), as[i]? = some (.own c) → vs[i]? = some (.ref p) → (n + i, p) ∈ (ownIx n as).zip ps := by
  induction h with
  | nil => intro n i c p e; simp at e
  | @val v d vs as ps r t ih =>
    intro n i c p e1 e2
    cases i with
    | zero => simp at e1
    | succ i =>
      have := ih (n + 1) i c p (by simpa using e1) (by simpa using e2)
      rw [show n + (i + 1) = n + 1 + i by omega]
      simpa [ownIx] using this
  | @own p0 o c0 vs as ps h1 h2 h3 t ih =>
    intro n i c p e1 e2
    cases i with
    | zero => simp at e2; subst e2; simp [ownIx]
    | succ i =>
      have := ih (n + 1) i c p (by simpa using e1) (by simpa using e2)
      rw [show n + (i + 1) = n + 1 + i by omega]
      simp [ownIx, this]
end
theorem zip_inj {α : Type} : ∀ {l : List Nat} {m : List α} {i j : Nat} {p : α}, m.Nodup → (i, p) ∈ l.zip m → (j, p) ∈ l.zip m → i = j
  | [], _, _, _, _, _, h, _ => by simp at h
  | _ :: _, [], _, _, _, _, h, _ => by simp at h
  | a :: l, q :: m, i, j, p, nd, h1, h2 => by
    simp only [List.zip_cons_cons, List.mem_cons, Prod.mk.injEq] at h1 h2
    have nq := (List.nodup_cons.mp nd).1
    rcases h1 with ⟨rfl, rfl⟩ | h1
    · rcases h2 with ⟨rfl, _⟩ | h2
      · rfl
      · exact absurd (List.of_mem_zip h2).2 nq
    · rcases h2 with ⟨rfl, rfl⟩ | h2
      · exact absurd (List.of_mem_zip h1).2 nq
      · exact zip_inj (List.nodup_cons.mp nd).2 h1 h2
theorem zip_fst {α : Type} : ∀ {l : List Nat} {m : List α}, l.length = m.length → (l.zip m).map (·.1) = l
  | [], [], _ => rfl
  | [], _ :: _, h => by simp at h
  | _ :: _, [], h => by simp at h
  | a :: l, q :: m, h => by simp only [List.zip_cons_cons, List.map_cons]; rw [zip_fst (by simpa using h)]
theorem zip_snd {α : Type} : ∀ {l : List Nat} {m : List α}, l.length = m.length → (l.zip m).map (·.2) = m
  | [], [], _ => rfl
  | [], _ :: _, h => by simp at h
  | _ :: _, [], h => by simp at h
  | a :: l, q :: m, h => by simp only [List.zip_cons_cons, List.map_cons]; rw [zip_snd (by simpa using h)]

/-- the context of a def's body -/
abbrev CXD (P : Program) (w : World) (K : PySem.W.Frag) (mg : Str → Option Value) (base : Heap) (N : List Str) (qual : Str) (st : Stmt) (f : Addr) (cdv : Value) (A : Around) (outer : List Env) (s : Shared) (H : Hp) (E : XK) : Cx := cxOf (L2.CX P w) P w K mg base N qual (defScope st) f cdv A outer s H E
abbrev WD (E : XK) : WX := fun cls d _ H => E cls d H
section
variable {P : Program} {w : World} {K : PySem.W.Frag} {mg : Str → Option Value} {base : Heap}
theorem outs_paired {G : Gx} {b : Bx} {O' : Addr → Bool} {H' : Hp} {σ' : L2.St} {ds' : DS} {O : Addr → Bool} (I : DI K G b O' H' σ' ds') (hO : ∀ a, O a = true → O' a = true) : ∀ {l : List Nat} {m : List Addr} {cs : List Ct}, l.length = m.length → (∀ q ∈ l.zip m, q ∈ b.P) → outsOf l ds' = some cs →
    Paired (fun p c => ∃ o, H' p = some o ∧ CtR K G.cm (hide H' O) c o) m cs
  | [], [], cs, _, _, e => by simp only [outsOf, Option.some.injEq] at e; subst e; exact .nil
  | [], _ :: _, _, h, _, _ => by simp at h
  | _ :: _, [], _, h, _, _ => by simp at h
  | i :: l, p :: m, cs, hl, hq, e => by
    simp only [outsOf] at e
    split at e
    · rename_i c cs' e1 e2
      cases e
      refine .cons ?_ (outs_paired I hO (by simpa using hl) (fun q h => hq q (by simp [h])) e2)
      obtain ⟨e3, _⟩ := I.pin (i, p) (hq _ (by simp))
      obtain ⟨p', o, e4, _, _, h1, h2⟩ := I.slot i _ e1
      have e3 : σ'[i]? = some (some (.ref p)) := e3
      rw [e3] at e4
      cases e4
      exact ⟨o, h1, h2.mono (SameR.hide_weak hO)⟩
    · cases e
/-- THE RULE of a def: its body's meaning -/
theorem fn_D {x qual : Str} {st : Stmt} {f : Addr} {fd : FuncData} {N pn : List Str} {k n : Nat} {G : Gx} {body : Nat → DS → Out} (F : Fun K x qual st f fd) (S : FnScope N pn (defScope st)) (hn : pn.length = n)
    (h : ∀ (fuel : Nat) (cdv : Value) (A : Around) (outer : List Env) (s : Shared) (H : Hp) (E : XK), Room k (A.deeper (PyProof.Rows.envOfC qual (defScope st) s.heap.objs.size f cdv)) → SDs (CXD P w K mg base N qual st f cdv A outer s H E) (WD E) G (defBody st) (body fuel)) :
    FnOk P w K mg base (L2.CX P w) (k + 1) f fd pn (spD K G.cm n (defD G.ps N.length body)) := by
  refine F.okX S (fun vs H Q E q => ?_) (fun cdv A outer s H vs Q E hr q => ?_)
  · obtain ⟨_, _, _, _, e, _⟩ := q
    rw [e, hn]
  · obtain ⟨fuel, O, as, ps, e, trk, nd, ar, post⟩ := q
    obtain ⟨t, pt, rt⟩ := (h fuel cdv A outer s H E hr).ex
    refine ⟨t, pt, ?_⟩
    unfold defD at post
    split at post
    · rename_i hix
      have al := ar.length
      have pl := ar.plen 0
      rw [hix] at pl
      let b : Bx := ⟨fun a => O a && !(ps.contains a), G.ps.zip ps, H⟩
      have hB : ∀ a, b.B a = true ↔ O a = true ∧ a ∉ ps := fun a => by
        show (O a && !(ps.contains a)) = true ↔ _
        simp [List.contains_iff_mem]
      have I : DI K G b O H (L2.start N vs) (as ++ List.replicate (N.length - as.length) .emp) := by
        have st_get : ∀ (i : Nat) (v : V), vs[i]? = some v → (L2.start N vs)[i]? = some (some v) := fun i v e => by
          unfold L2.start
          rw [List.getElem?_append_left (by simpa using (List.getElem?_eq_some_iff.mp e).1), List.getElem?_map, e]
          rfl
        have as_get : ∀ (i : Nat) (x : Sl), (as ++ List.replicate (N.length - as.length) .emp)[i]? = some x → x = .emp ∨ as[i]? = some x := fun i x e => by
          by_cases hi : i < as.length
          · rw [List.getElem?_append_left hi] at e; exact .inr e
          · rw [List.getElem?_append_right (by omega), List.getElem?_replicate] at e
            split at e
            · cases e; exact .inl rfl
            · cases e
        have as_own : ∀ (i : Nat) (c : Ct), (as ++ List.replicate (N.length - as.length) .emp)[i]? = some (.own c) → as[i]? = some (.own c) := fun i c e => (as_get i _ e).resolve_left (fun z => nomatch z)
        refine ⟨?_, fun i x e => ?_, fun i j ci cj p e1 e2 e3 e4 => ?_, fun a ha => ((hB a).mp ha).1, fun q hq => ?_, zip_fst pl, trk, fun a ha => ?_, fun a ha => ha⟩
        · unfold L2.start
          simp only [List.length_append, List.length_map, List.length_replicate, al]
        · rcases as_get i x e with rfl | e
          · trivial
          · obtain ⟨v, e1, e2⟩ := ar.slot i x e
            cases x with
            | emp => trivial
            | val d => exact ⟨v, st_get i v e1, e2⟩
            | own c =>
              obtain ⟨p, o, rfl, a2, a3, a4, a5⟩ := e2
              refine ⟨p, o, st_get i _ e1, a2, ?_, a3, a4⟩
              cases z : b.B p with
              | false => rfl
              | true => exact absurd a5 ((hB p).mp z).2
        · have f1 := as_own i ci e1
          have f2 := as_own j cj e2
          have g1 : vs[i]? = some (.ref p) := by
            obtain ⟨v, w1, _⟩ := ar.slot i _ f1
            rw [st_get i v w1] at e3
            cases e3
            exact w1
          have g2 : vs[j]? = some (.ref p) := by
            obtain ⟨v, w1, _⟩ := ar.slot j _ f2
            rw [st_get j v w1] at e4
            cases e4
            exact w1
          have m1 := ar.mem 0 i ci p f1 g1
          have m2 := ar.mem 0 j cj p f2 g2
          rw [Nat.zero_add] at m1 m2
          exact zip_inj nd m1 m2
        · have hq : q ∈ (ownIx 0 as).zip ps := by rw [hix]; exact hq
          obtain ⟨_, h2, c, h3⟩ := ar.pin 0 q hq
          rw [Nat.sub_zero] at h2 h3
          refine ⟨st_get _ _ h2, c, ?_⟩
          rw [List.getElem?_append_left (List.getElem?_eq_some_iff.mp h3).1]
          exact h3
        · by_cases ha' : a ∈ ps
          · refine .inr (.inl ?_)
            show a ∈ (G.ps.zip ps).map (·.2)
            rw [zip_snd pl]
            exact ha'
          · exact .inl ((hB a).mpr ⟨ha, ha'⟩)
      have big : ∀ {σ' H' O' ds'}, DI K G b O' H' σ' ds' → ∀ a, O a = true → O' a = true := fun {σ' H' O' ds'} I' a ha => by
        by_cases ha' : a ∈ ps
        · have : a ∈ (G.ps.zip ps).map (·.2) := by rw [zip_snd pl]; exact ha'
          obtain ⟨q, hq, rfl⟩ := List.mem_map.mp this
          obtain ⟨e1, c, e2⟩ := I'.pin q hq
          obtain ⟨p', o, e3, h1, _⟩ := I'.slot _ _ e2
          rw [e1] at e3
          cases e3
          exact h1
        · exact I'.sub a ((hB a).mpr ⟨ha, ha'⟩)
      have backO : ∀ {σ' H' O' ds' cs O2}, DI K G b O' H' σ' ds' → Ext b H O H' O' → outsOf G.ps ds' = some cs → (∀ a, O2 a = true → O' a = true) → Back K G.cm O O2 ps cs H H' := fun {σ' H' O' ds' cs O2} I' x e h2 =>
        ⟨fun a h1 h2 => x.keep a ((hB a).mpr ⟨h1, h2⟩), x.sm.trans (same_weak h2), x.non, x.fz, outs_paired I' h2 pl (fun q hq => hq) e⟩
      have back : ∀ {σ' H' O' ds' cs}, DI K G b O' H' σ' ds' → Ext b H O H' O' → outsOf G.ps ds' = some cs → Back K G.cm O O ps cs H H' := fun {σ' H' O' ds' cs} I' x e => backO I' x e (big I')
      refine rt b O H (L2.start N vs) _ _ I ?_
      show SPost K G b (WD E) H O _ _
      generalize body fuel (as ++ List.replicate (N.length - as.length) .emp) = o at post ⊢
      cases o with
      | stuck => exact post
      | bk _ => exact post.elim
      | ct _ => exact post.elim
      | nx ds' =>
        simp only [finish] at post
        split at post
        · rename_i cs e3
          exact fun σ' H' O' I' x => post .non H' (back I' x e3) (rep_non.mpr rfl)
        · exact post.elim
      | rt d ds' =>
        simp only [finish] at post
        split at post
        · rename_i cs e3
          exact fun v σ' H' O' I' x r => post v H' (back I' x e3) (Rep.mono (SameR.hide_weak (big I')) _ _ r)
        · exact post.elim
      | ro c ds' =>
        simp only [finish] at post
        split at post
        · rename_i cs e3
          intro p σ' H' O' I' x w1
          obtain ⟨o, e4, e5⟩ := w1.at_
          have hs : ∀ a, addO O p a = true → O' a = true := fun a ha => by
            by_cases z : a = p
            · subst z; exact w1.o
            · exact big I' a (of_addO ha z)
          exact post p o H' (backO I' x e3 hs) w1.nw e4 (e5.mono (SameR.hide_weak hs))
        · exact post.elim
      | exc c ds' =>
        simp only [finish] at post
        split at post
        · rename_i cs e3
          exact fun y σ' H' O' I' x => post y H' (back I' x e3)
        · exact post.elim
    · exact post.elim
end
end DL

/-! DE: calls of defs; raise; what changes an owned list or dict -/
namespace DL
open PySem L2

inductive Ar where
  | v (d : D) | o (i : Nat)
def ArR (K : PySem.W.Frag) (σ : L2.St) (h : Hp) : List Ar → List V → Prop
  | [], xs => xs = []
  | .v d :: r, xs => ∃ x s, xs = x :: s ∧ Rep K h d x ∧ ArR K σ h r s
  | .o i :: r, xs => ∃ x s, xs = x :: s ∧ σ[i]? = some (some x) ∧ ArR K σ h r s
theorem ArR.mono {K : PySem.W.Frag} {σ : L2.St} {H H' : Hp} (s : SameR H H') : ∀ (l : List Ar) (xs : List V), ArR K σ H l xs → ArR K σ H' l xs
  | [], _, h => h
  | .v d :: r, xs, h => by obtain ⟨x, t, e, h1, h2⟩ := h; exact ⟨x, t, e, Rep.mono s d x h1, ArR.mono s r t h2⟩
  | .o i :: r, xs, h => by obtain ⟨x, t, e, h1, h2⟩ := h; exact ⟨x, t, e, h1, ArR.mono s r t h2⟩
structure AA (X : Cx) (W : WX) (G : Gx) (es : List Expr) (f : DS → R (List Ar × DS)) : Prop where
  ex : ∃ t, PA X es t ∧ ∀ b O H σ ds Q, DI X.K G b O H σ ds → EPost X.K G b W (ArR X.K σ) H O σ Q (f ds) → t σ H Q
  len : ∀ ds l ds', f ds = .ok (l, ds') → l.length = es.length
def aaNil (ds : DS) : R (List Ar × DS) := .ok ([], ds)
def aaVal (fa : DS → R (D × DS)) (fr : DS → R (List Ar × DS)) (ds : DS) : R (List Ar × DS) := (fa ds).bind fun p => (fr p.2).bind fun q => .ok (.v p.1 :: q.1, q.2)
def aaOwn (i : Nat) (fr : DS → R (List Ar × DS)) (ds : DS) : R (List Ar × DS) := match ds[i]? with
  | some (.own _) => (fr ds).bind fun q => .ok (.o i :: q.1, q.2)
  | _ => .stuck
section
variable {X : Cx} {W : WX} {G : Gx}
theorem R.bind_ok_iff {α β : Type} {r : R α} {f : α → R β} {y : β} : r.bind f = .ok y ↔ ∃ x, r = .ok x ∧ f x = .ok y := by
  cases r with
  | stuck => constructor <;> intro h <;> simp at h
  | ok a => constructor
            · intro h; exact ⟨a, rfl, h⟩
            · rintro ⟨x, e, h⟩; cases e; exact h
  | exc c ds => constructor <;> intro h <;> simp at h
theorem aa_nil : AA X W G [] aaNil := ⟨⟨tNil, pa_nil, fun _ _ _ σ _ _ I h => EPost.done (rel := ArR X.K σ) h I rfl⟩, fun ds l ds' e => by simp [aaNil] at e; simp [← e.1]⟩
theorem aa_val {e : Expr} {es : List Expr} {fa : DS → R (D × DS)} {fr : DS → R (List Ar × DS)} (ha : ED X W G e fa) (hr : AA X W G es fr) (hs : starEach (e :: es) X.env = (false, eval e X.env) :: starEach es X.env := by rfl) : AA X W G (e :: es) (aaVal fa fr) := by
  obtain ⟨ta, pa, ra⟩ := ha.ex
  obtain ⟨tr, pr, rr⟩ := hr.ex
  refine ⟨⟨tCons ta tr, pa_cons pa pr hs, fun b O H σ ds Q I h => ?_⟩, fun ds l ds' e => by
    unfold aaVal at e
    obtain ⟨p, _, e⟩ := R.bind_ok_iff.mp e
    obtain ⟨q, e1, e⟩ := R.bind_ok_iff.mp e
    cases e
    simp [hr.len p.2 q.1 q.2 e1]⟩
  refine ra b O H σ ds _ I (EPost.bind h fun d1 ds1 v1 H1 O1 _ I1 x1 r1 h1 => ?_)
  refine rr b O1 H1 σ ds1 _ I1 (EPost.bind h1 fun d2 ds2 v2 H2 O2 _ I2 x2 r2 h2 => ?_)
  exact EPost.done (rel := ArR X.K σ) h2 I2 ⟨v1, v2, rfl, Rep.mono x2.same _ _ r1, r2⟩
theorem aa_own (i : Nat) {x : Str} {pos : Pos} {es : List Expr} {fr : DS → R (List Ar × DS)} (hr : AA X W G es fr) (hN : X.N[i]? = some x := by rfl) (hv : Vis X.env.scope x := by first | exact Or.inl rfl | exact Or.inr (Or.inl rfl) | exact Or.inr (Or.inr rfl))
    (hd : (x == ("__debug__" : Str)) = false := by decide) (hcd : (x == ("__classdict__" : Str)) = false := by decide) (hs : starEach (.Name x pos :: es) X.env = (false, eval (.Name x pos) X.env) :: starEach es X.env := by rfl) : AA X W G (.Name x pos :: es) (aaOwn i fr) := by
  obtain ⟨tr, pr, rr⟩ := hr.ex
  refine ⟨⟨tCons (tVar i) tr, pa_cons (pe_var hN hv hd hcd) pr hs, fun b O H σ ds Q I h => ?_⟩, fun ds l ds' e => by
    unfold aaOwn at e
    split at e
    · obtain ⟨q, e1, e⟩ := R.bind_ok_iff.mp e
      cases e
      simp [hr.len ds q.1 q.2 e1]
    · cases e⟩
  unfold aaOwn at h
  split at h
  · rename_i c e
    obtain ⟨p, o, e1, _⟩ := I.slot i _ e
    refine ⟨_, e1, rr b O H σ ds _ I (EPost.bind h fun d2 ds2 v2 H2 O2 _ I2 x2 r2 h2 => ?_)⟩
    exact EPost.done (rel := ArR X.K σ) h2 I2 ⟨_, v2, rfl, e1, r2⟩
  · exact h.elim
def asOf : List Ar → DS → Option (List Sl)
  | [], _ => some []
  | .v d :: r, ds => (asOf r ds).map (.val d :: ·)
  | .o i :: r, ds => match ds[i]? with
    | some (.own c) => (asOf r ds).map (.own c :: ·)
    | _ => none
def idxOf : List Ar → List Nat
  | [] => []
  | .v _ :: r => idxOf r
  | .o i :: r => i :: idxOf r
def putCs : List Nat → List Ct → DS → DS
  | i :: r, c :: cs, ds => putCs r cs (ds.set i (.own c))
  | _, _, ds => ds
theorem args_of {b : Bx} {O : Addr → Bool} {H : Hp} {σ : L2.St} {ds : DS} (I : DI X.K G b O H σ ds) : ∀ {l : List Ar} {vs : List V} {as : List Sl}, ArR X.K σ (hide H O) l vs → asOf l ds = some as → ∃ ps, ArgsR X.K G.cm O H vs as ps ∧ Paired (fun i p => σ[i]? = some (some (.ref p)) ∧ ∃ c, ds[i]? = some (.own c)) (idxOf l) ps
  | [], vs, as, h, e => by
    simp only [asOf, Option.some.injEq] at e; subst e
    cases (show vs = [] from h)
    exact ⟨[], .nil, .nil⟩
  | .v d :: r, vs, as, h, e => by
    obtain ⟨x, t, rfl, h1, h2⟩ := h
    simp only [asOf] at e
    obtain ⟨as', e1, rfl⟩ := Option.map_eq_some_iff.mp e
    obtain ⟨ps, a, p⟩ := args_of I h2 e1
    exact ⟨ps, .val h1 a, p⟩
  | .o i :: r, vs, as, h, e => by
    obtain ⟨x, t, rfl, h1, h2⟩ := h
    simp only [asOf] at e
    split at e
    · rename_i c ec
      obtain ⟨as', e1, rfl⟩ := Option.map_eq_some_iff.mp e
      obtain ⟨ps, a, p⟩ := args_of I h2 e1
      obtain ⟨q, o, e2, h3, _, h4, h5⟩ := I.slot i _ ec
      rw [h1] at e2
      cases e2
      exact ⟨q :: ps, .own h3 h4 h5 a, .cons ⟨h1, c, ec⟩ p⟩
    · cases e
theorem Paired.right {α β : Type} {F : α → β → Prop} : ∀ {l : List α} {m : List β}, Paired F l m → ∀ {b : β}, b ∈ m → ∃ a, a ∈ l ∧ F a b
  | _, _, .nil, _, h => by simp at h
  | _, _, .cons r t, b, h => by
    rcases List.mem_cons.mp h with rfl | h
    · exact ⟨_, List.mem_cons_self, r⟩
    · obtain ⟨a, h1, h2⟩ := Paired.right t h; exact ⟨a, List.mem_cons_of_mem _ h1, h2⟩
theorem Paired.left {α β : Type} {F : α → β → Prop} : ∀ {l : List α} {m : List β}, Paired F l m → ∀ {a : α}, a ∈ l → ∃ b, b ∈ m ∧ F a b
  | _, _, .nil, _, h => by simp at h
  | _, _, .cons r t, b, h => by
    rcases List.mem_cons.mp h with rfl | h
    · exact ⟨_, List.mem_cons_self, r⟩
    · obtain ⟨a, h1, h2⟩ := Paired.left t h; exact ⟨a, List.mem_cons_of_mem _ h1, h2⟩
theorem idx_nodup {b : Bx} {O : Addr → Bool} {H : Hp} {σ : L2.St} {ds : DS} (I : DI X.K G b O H σ ds) : ∀ {l : List Nat} {ps : List Addr}, Paired (fun i p => σ[i]? = some (some (.ref p)) ∧ ∃ c, ds[i]? = some (.own c)) l ps → l.Nodup → ps.Nodup
  | _, _, .nil, _ => List.nodup_nil
  | _, _, .cons (a := i) (b := p) ⟨h1, c, h2⟩ t, nd => by
    refine List.nodup_cons.mpr ⟨fun hm => ?_, idx_nodup I t (List.nodup_cons.mp nd).2⟩
    obtain ⟨j, hj, h3, c', h4⟩ := Paired.right t hm
    have := I.sep i j c c' p h2 h4 h1 h3
    subst this
    exact (List.nodup_cons.mp nd).1 hj
/-- one owned content is another now -/
theorem DI.putC {K : PySem.W.Frag} {b : Bx} {O : Addr → Bool} {H : Hp} {σ : L2.St} {ds : DS} {i : Nat} {c c' : Ct} {p : Addr} (I : DI K G b O H σ ds) (e : ds[i]? = some (.own c)) (e1 : σ[i]? = some (some (.ref p))) (h : ∃ o, H p = some o ∧ CtR K G.cm (hide H O) c' o) : DI K G b O H σ (ds.set i (.own c')) := by
  refine ⟨by simpa using I.len, fun j x hj => ?_, fun j k cj ck q h1 h2 h3 h4 => ?_, I.sub, fun q hq => ?_, I.pidx, I.trk, I.new, I.ent⟩
  · rcases set_cases hj with ⟨rfl, rfl, hl⟩ | ⟨hj, hx⟩
    · obtain ⟨p', o, e2, h2, h3, _, _⟩ := I.slot _ _ e
      rw [e1] at e2
      cases e2
      obtain ⟨o', h4, h5⟩ := h
      exact ⟨p, o', e1, h2, h3, h4, h5⟩
    · exact I.slot j x hx
  · have k1 : ∃ c, ds[j]? = some (.own c) := by
      rcases set_cases h1 with ⟨rfl, _, _⟩ | ⟨_, z⟩
      · exact ⟨c, e⟩
      · exact ⟨_, z⟩
    have k2 : ∃ c, ds[k]? = some (.own c) := by
      rcases set_cases h2 with ⟨rfl, _, _⟩ | ⟨_, z⟩
      · exact ⟨c, e⟩
      · exact ⟨_, z⟩
    obtain ⟨_, k1⟩ := k1
    obtain ⟨_, k2⟩ := k2
    exact I.sep j k _ _ q k1 k2 h3 h4
  · obtain ⟨q1, c2, q2⟩ := I.pin q hq
    refine ⟨q1, ?_⟩
    by_cases z : q.1 = i
    · rw [z]; exact ⟨c', by rw [List.getElem?_set_self (List.getElem?_eq_some_iff.mp e).1]⟩
    · exact ⟨c2, by rw [get_set_ne (Ne.symm z)]; exact q2⟩
/-- the slots' contents that a call changed. J: the state without those slots -/
structure DJ (K : PySem.W.Frag) (G : Gx) (b : Bx) (O : Addr → Bool) (H : Hp) (σ : L2.St) (ds : DS) (l : List Nat) : Prop where
  len : σ.length = ds.length
  slot : ∀ (i : Nat) (s : Sl), i ∉ l → ds[i]? = some s → SlR K G.cm b.B O H (σ[i]?) s
  slotO : ∀ i ∈ l, ∃ c p, ds[i]? = some (.own c) ∧ σ[i]? = some (some (.ref p)) ∧ O p = true ∧ b.B p = false
  sep : ∀ (i j : Nat) (ci cj : Ct) (p : Addr), ds[i]? = some (.own ci) → ds[j]? = some (.own cj) → σ[i]? = some (some (.ref p)) → σ[j]? = some (some (.ref p)) → i = j
  sub : ∀ a, b.B a = true → O a = true
  pin : ∀ q ∈ b.P, σ[q.1]? = some (some (.ref q.2)) ∧ ∃ c, ds[q.1]? = some (.own c)
  pidx : b.P.map (·.1) = G.ps
  trk : ∀ a, O a = true → H a ≠ none
  new : ∀ a, O a = true → b.B a = true ∨ a ∈ b.P.map (·.2) ∨ b.H0 a = none
  ent : ∀ a, H a = none → b.H0 a = none
theorem DJ.put {K : PySem.W.Frag} {b : Bx} {O : Addr → Bool} {H : Hp} {σ : L2.St} {ds : DS} {i : Nat} {l : List Nat} {c' : Ct} (J : DJ K G b O H σ ds (i :: l)) (h : ∀ p, σ[i]? = some (some (.ref p)) → ∃ o, H p = some o ∧ CtR K G.cm (hide H O) c' o) : DJ K G b O H σ (ds.set i (.own c')) l := by
  obtain ⟨c, p, e, e1, h2, h3⟩ := J.slotO i List.mem_cons_self
  obtain ⟨o', h4, h5⟩ := h p e1
  refine ⟨by simpa using J.len, fun j x hl hj => ?_, fun j hj => ?_, fun j k cj ck q h1 h2 h3 h4 => ?_, J.sub, fun q hq => ?_, J.pidx, J.trk, J.new, J.ent⟩
  · rcases set_cases hj with ⟨rfl, rfl, _⟩ | ⟨hj, hx⟩
    · exact ⟨p, o', e1, h2, h3, h4, h5⟩
    · exact J.slot j x (by simp [hj, hl]) hx
  · obtain ⟨c2, p2, g1, g2, g3, g4⟩ := J.slotO j (List.mem_cons_of_mem _ hj)
    by_cases z : j = i
    · subst z; exact ⟨c', p2, by rw [List.getElem?_set_self (List.getElem?_eq_some_iff.mp e).1], g2, g3, g4⟩
    · exact ⟨c2, p2, by rw [get_set_ne (Ne.symm z)]; exact g1, g2, g3, g4⟩
  · have k1 : ∃ c, ds[j]? = some (.own c) := by
      rcases set_cases h1 with ⟨rfl, _, _⟩ | ⟨_, z⟩
      · exact ⟨c, e⟩
      · exact ⟨_, z⟩
    have k2 : ∃ c, ds[k]? = some (.own c) := by
      rcases set_cases h2 with ⟨rfl, _, _⟩ | ⟨_, z⟩
      · exact ⟨c, e⟩
      · exact ⟨_, z⟩
    obtain ⟨_, k1⟩ := k1
    obtain ⟨_, k2⟩ := k2
    exact J.sep j k _ _ q k1 k2 h3 h4
  · obtain ⟨q1, c2, q2⟩ := J.pin q hq
    refine ⟨q1, ?_⟩
    by_cases z : q.1 = i
    · rw [z]; exact ⟨c', by rw [List.getElem?_set_self (List.getElem?_eq_some_iff.mp e).1]⟩
    · exact ⟨c2, by rw [get_set_ne (Ne.symm z)]; exact q2⟩
theorem DJ.putAll {K : PySem.W.Frag} {b : Bx} {O : Addr → Bool} {H : Hp} {σ : L2.St} {l : List Nat} {ps : List Addr} (h : Paired (fun i p => σ[i]? = some (some (.ref p))) l ps) : ∀ {cs : List Ct} {ds : DS}, DJ K G b O H σ ds l → Paired (fun p c => ∃ o, H p = some o ∧ CtR K G.cm (hide H O) c o) ps cs → DJ K G b O H σ (putCs l cs ds) [] := by
  induction h with
  | nil => intro cs ds J h2; cases h2; exact J
  | cons h t ih =>
    intro cs ds J h2
    cases h2 with
    | cons g u =>
      refine ih (J.put fun p hp => ?_) u
      rw [h] at hp
      cases hp
      exact g
theorem DJ.di {K : PySem.W.Frag} {b : Bx} {O : Addr → Bool} {H : Hp} {σ : L2.St} {ds : DS} (J : DJ K G b O H σ ds []) : DI K G b O H σ ds :=
  ⟨J.len, fun i s h => J.slot i s (by simp) h, J.sep, J.sub, J.pin, J.pidx, J.trk, J.new, J.ent⟩
/-- behind a call -/
theorem DI.backO {K : PySem.W.Frag} {b : Bx} {O O' : Addr → Bool} {H H' : Hp} {σ : L2.St} {ds : DS} {l : List Nat} {ps : List Addr} {cs : List Ct} (I : DI K G b O H σ ds) (pr : Paired (fun i p => σ[i]? = some (some (.ref p)) ∧ ∃ c, ds[i]? = some (.own c)) l ps) (B : Back K G.cm O O' ps cs H H')
    (h1 : ∀ a, O a = true → O' a = true) (h2 : ∀ a, O' a = true → O a = true ∨ (H' a ≠ none ∧ b.H0 a = none)) : DI K G b O' H' σ (putCs l cs ds) := by
  refine DJ.di (DJ.putAll (ps := ps) (L2.Paired.mapP pr fun _ _ q => q.1) ?_ B.cts)
  refine ⟨I.len, fun i s hi h => ?_, fun i hi => ?_, I.sep, fun a ha => h1 a (I.sub a ha), I.pin, I.pidx, fun a ha e => ?_, fun a ha => ?_, fun a ha => I.ent a (B.non a ha)⟩
  · have q := I.slot i s h
    cases s with
    | emp => trivial
    | val d => obtain ⟨v, e, r⟩ := q; exact ⟨v, e, Rep.mono B.same _ _ r⟩
    | own c =>
      obtain ⟨p, o, e, h3, h4, h5, h6⟩ := q
      refine ⟨p, o, e, h1 p h3, h4, ?_, h6.mono B.same⟩
      rw [B.keep p h3 fun hm => ?_]
      · exact h5
      · obtain ⟨j, hj, e2, c2, e3⟩ := Paired.right pr hm
        have := I.sep i j c c2 p h e3 e e2
        subst this
        exact hi hj
  · obtain ⟨p, _, e, c, h⟩ := Paired.left pr hi
    obtain ⟨p', o, e2, h3, h4, _, _⟩ := I.slot i _ h
    exact ⟨c, p', h, e2, h1 p' h3, h4⟩
  · rcases h2 a ha with q | ⟨q, _⟩
    · exact I.trk a q (B.non a e)
    · exact q e
  · rcases h2 a ha with q | ⟨_, q⟩
    · exact I.new a q
    · exact .inr (.inr q)
theorem DI.back {K : PySem.W.Frag} {b : Bx} {O : Addr → Bool} {H H' : Hp} {σ : L2.St} {ds : DS} {l : List Nat} {ps : List Addr} {cs : List Ct} (I : DI K G b O H σ ds) (pr : Paired (fun i p => σ[i]? = some (some (.ref p)) ∧ ∃ c, ds[i]? = some (.own c)) l ps) (B : Back K G.cm O O ps cs H H') : DI K G b O H' σ (putCs l cs ds) :=
  I.backO pr B (fun _ h => h) fun _ h => .inl h
theorem Ext.back {K : PySem.W.Frag} {b : Bx} {O O' : Addr → Bool} {H H' : Hp} {σ : L2.St} {ds : DS} {l : List Nat} {ps : List Addr} {cs : List Ct} (I : DI K G b O H σ ds) (pr : Paired (fun i p => σ[i]? = some (some (.ref p)) ∧ ∃ c, ds[i]? = some (.own c)) l ps) (B : Back K G.cm O O' ps cs H H') : Ext b H O H' O' := by
  refine ⟨fun a ha => B.keep a (I.sub a ha) fun hm => ?_, B.sm, B.non, B.fz⟩
  obtain ⟨j, _, e, c, h⟩ := Paired.right pr hm
  obtain ⟨p, o, e2, _, h2, _⟩ := I.slot j _ h
  rw [e] at e2
  cases e2
  rw [h2] at ha
  cases ha
theorem own_put {l : List Nat} : ∀ {cs : List Ct} {ds : DS} {i : Nat} {c : Ct}, (∀ j ∈ l, ∃ c, ds[j]? = some (.own c)) → (putCs l cs ds)[i]? = some (.own c) → ∃ c, ds[i]? = some (.own c) := by
  induction l with
  | nil => intro cs ds i c _ h; exact ⟨c, by cases cs <;> exact h⟩
  | cons j l ih =>
    intro cs ds i c hl h
    cases cs with
    | nil => exact ⟨c, h⟩
    | cons c' cs =>
      have h' : (putCs l cs (ds.set j (.own c')))[i]? = some (.own c) := h
      obtain ⟨cj, hj⟩ := hl j List.mem_cons_self
      obtain ⟨c2, h2⟩ := ih (fun k hk => by
        obtain ⟨c3, h3⟩ := hl k (List.mem_cons_of_mem _ hk)
        by_cases z : k = j
        · subst z; exact ⟨c', by rw [List.getElem?_set_self (List.getElem?_eq_some_iff.mp hj).1]⟩
        · exact ⟨c3, by rw [get_set_ne (Ne.symm z)]; exact h3⟩) h'
      rcases set_cases h2 with ⟨rfl, _, _⟩ | ⟨_, z⟩
      · exact ⟨cj, hj⟩
      · exact ⟨c2, z⟩
def fCallF (F : List Sl → Res) (fa : DS → R (List Ar × DS)) (ds : DS) : R (D × DS) := (fa ds).bind fun p => match asOf p.1 p.2 with
  | none => .stuck
  | some as => if (idxOf p.1).Nodup then (match F as with
    | .stuck => .stuck
    | .ret d cs => .ok (d, putCs (idxOf p.1) cs p.2)
    | .reto c cs => lft (dOf c) (putCs (idxOf p.1) cs p.2)
    | .exc c cs => .exc c (putCs (idxOf p.1) cs p.2)) else .stuck
def oCallF (F : List Sl → Res) (fa : DS → R (List Ar × DS)) (ds : DS) : R (Ct × DS) := (fa ds).bind fun p => match asOf p.1 p.2 with
  | none => .stuck
  | some as => if (idxOf p.1).Nodup then (match F as with
    | .stuck => .stuck
    | .ret d cs => .stuck
    | .reto c cs => .ok (c, putCs (idxOf p.1) cs p.2)
    | .exc c cs => .exc c (putCs (idxOf p.1) cs p.2)) else .stuck
section
variable {k n : Nat} {f : Addr} {fd : FuncData} {pn : List Str} {F : Nat → List Sl → Res} {x : Str} {p pos : Pos} {e : Expr} {es : List Expr} {fa : DS → R (List Ar × DS)}
theorem dOf_addO {K : PySem.W.Frag} {cm : Nat → Addr} {O : Addr → Bool} {H : Hp} {c : Ct} {d : D} {p : Addr} {o : HO} (e : dOf c = some d) (hp : H p = some o) (ho : O p = false) (r : CtR K cm (hide H (addO O p)) c o) : Rep K (hide H O) d (.ref p) :=
  rep_dOf (cm := cm) e (hide_mk hp ho) (r.mono (SameR.hide_weak fun a h => addO_of h))
theorem call_arg {t : TA} (rt : ∀ b O H σ ds Q, DI X.K G b O H σ ds → EPost X.K G b W (ArR X.K σ) H O σ Q (fa ds) → t σ H Q) (fuel : Nat) (lenA : ∀ ds l ds', fa ds = .ok (l, ds') → l.length = n) :
    ∀ b O H σ ds Q, DI X.K G b O H σ ds → EPost X.K G b W (relE X.K) H O σ Q (fCallF (F fuel) fa ds) → t σ H fun vs H1 => spD X.K G.cm n F vs H1 Q (WE W σ) := by
  intro b O H σ ds Q I h
  refine rt b O H σ ds _ I (EPost.bind h fun l ds1 vs H1 O1 e0 I1 x1 r1 h1 => ?_)
  dsimp only at h1
  split at h1
  · exact h1.elim
  · rename_i as eas
    obtain ⟨ps, ar, pr⟩ := args_of I1 r1 eas
    split at h1
    · rename_i nd
      have lv : vs.length = n := by
        have : ∀ (l : List Ar) (vs : List V), ArR X.K σ (hide H1 O1) l vs → vs.length = l.length := by
          intro l
          induction l with
          | nil => intro vs h; cases (show vs = [] from h); rfl
          | cons a l ih =>
            intro vs h
            cases a with
            | v d => obtain ⟨x, s, rfl, _, h⟩ := h; simp [ih s h]
            | o i => obtain ⟨x, s, rfl, _, h⟩ := h; simp [ih s h]
        rw [this _ _ r1]
        exact lenA _ _ _ e0
      refine ⟨fuel, O1, as, ps, lv, I1.trk, idx_nodup I1 pr nd, ar, ?_⟩
      cases e2 : F fuel as with
      | stuck => rw [e2] at h1; exact h1
      | ret d cs =>
        rw [e2] at h1
        exact fun v H' B r => h1 v H' O1 (I1.back pr B) (Ext.back I1 pr B) r
      | reto c cs =>
        rw [e2] at h1
        intro p o H' B np hp r
        obtain ⟨d, ed, h2⟩ := EPost.lft h1
        have B' : Back X.K G.cm O1 O1 ps cs H1 H' := ⟨B.keep, B.sm.trans (same_weak fun a ha => addO_of ha), B.non, B.fz, L2.Paired.mapP B.cts fun _ _ ⟨o, h1, h2⟩ => ⟨o, h1, h2.mono (SameR.hide_weak fun a ha => addO_of ha)⟩⟩
        exact h2 _ H' O1 (I1.back pr B') (Ext.back I1 pr B') (dOf_addO ed hp (fresh_O I1 np) r)
      | exc c cs =>
        rw [e2] at h1
        exact fun y H' B => h1 y H' O1 (I1.back pr B) (Ext.back I1 pr B)
    · exact h1.elim
theorem call_argO {t : TA} (rt : ∀ b O H σ ds Q, DI X.K G b O H σ ds → EPost X.K G b W (ArR X.K σ) H O σ Q (fa ds) → t σ H Q) (fuel : Nat) (lenA : ∀ ds l ds', fa ds = .ok (l, ds') → l.length = n) :
    ∀ b O H σ ds Q, DI X.K G b O H σ ds → OPost X.K G b W H O σ Q (oCallF (F fuel) fa ds) → t σ H fun vs H1 => spD X.K G.cm n F vs H1 Q (WE W σ) := by
  intro b O H σ ds Q I h
  refine rt b O H σ ds _ I (OPost.bind h fun l ds1 vs H1 O1 e0 I1 x1 r1 h1 => ?_)
  dsimp only at h1
  split at h1
  · exact h1.elim
  · rename_i as eas
    obtain ⟨ps, ar, pr⟩ := args_of I1 r1 eas
    split at h1
    · rename_i nd
      have lv : vs.length = n := by
        have : ∀ (l : List Ar) (vs : List V), ArR X.K σ (hide H1 O1) l vs → vs.length = l.length := by
          intro l
          induction l with
          | nil => intro vs h; cases (show vs = [] from h); rfl
          | cons a l ih =>
            intro vs h
            cases a with
            | v d => obtain ⟨x, s, rfl, _, h⟩ := h; simp [ih s h]
            | o i => obtain ⟨x, s, rfl, _, h⟩ := h; simp [ih s h]
        rw [this _ _ r1]
        exact lenA _ _ _ e0
      refine ⟨fuel, O1, as, ps, lv, I1.trk, idx_nodup I1 pr nd, ar, ?_⟩
      cases e2 : F fuel as with
      | stuck => rw [e2] at h1; exact h1
      | ret d cs => rw [e2] at h1; exact h1.elim
      | reto c cs =>
        rw [e2] at h1
        intro p o H' B np hp r
        have hn1 : b.B p = false := by
          cases q : b.B p with
          | false => rfl
          | true => exact absurd np (I1.trk p (I1.sub p q))
        refine h1 p H' (addO O1 p) (I1.backO pr B (fun a ha => addO_of ha) fun a ha => ?_) (Ext.back I1 pr B) ⟨addO_self, hn1, fun i ci hi z => ?_, ⟨o, hp, r⟩, I1.ent p np⟩
        · by_cases z : a = p
          · subst z; exact .inr ⟨by rw [hp]; simp, I1.ent a np⟩
          · exact .inl (of_addO ha z)
        · obtain ⟨c0, h0⟩ := own_put (fun j hj => (Paired.left pr hj).elim fun _ q => q.2.2) hi
          obtain ⟨p', o', e', _, _, hp', _⟩ := I1.slot i _ h0
          rw [z] at e'
          cases e'
          rw [np] at hp'
          cases hp'
      | exc c cs =>
        rw [e2] at h1
        exact fun y H' B => h1 y H' O1 (I1.back pr B) (Ext.back I1 pr B)
    · exact h1.elim
theorem ed_call (F0 : FnOk X.prog X.w X.K X.mg X.base (L2.CX X.prog X.w) k f fd pn (spD X.K G.cm n F)) (hr : Room k X.A) (hm : X.mg x = some (.ref f)) (hk : PySem.W.keepIn X.K (.ref f) = true) (hb : Binds X.K fd pn []) (tk : Takes X W) (fuel : Nat) (ha : AA X W G (e :: es) fa)
    (hn : (e :: es).length = n := by rfl) (hg : Gl X x := by rfl) (hdb : (x == ("__debug__" : Str)) = false := by decide) (he : starEach (e :: es) X.env = (false, eval e X.env) :: starEach es X.env := by rfl) (hpl : (backTo pos (starEach es X.env)).any (·.1) = false := by rfl) :
    ED X W G (.Call (.Name x p) (e :: es) [] pos) (fCallF (F fuel) fa) := by
  obtain ⟨t, pt, rt⟩ := ha.ex
  exact ⟨tCallS (spD X.K G.cm n F) (WE W) t, pe_callS F0 hr hg hm hk hb (fun σ => passAt tk σ) pt hdb he hpl, call_arg rt fuel fun ds l ds' e => (ha.len ds l ds' e).trans hn⟩
theorem eo_call (F0 : FnOk X.prog X.w X.K X.mg X.base (L2.CX X.prog X.w) k f fd pn (spD X.K G.cm n F)) (hr : Room k X.A) (hm : X.mg x = some (.ref f)) (hk : PySem.W.keepIn X.K (.ref f) = true) (hb : Binds X.K fd pn []) (tk : Takes X W) (fuel : Nat) (ha : AA X W G (e :: es) fa)
    (hn : (e :: es).length = n := by rfl) (hg : Gl X x := by rfl) (hdb : (x == ("__debug__" : Str)) = false := by decide) (he : starEach (e :: es) X.env = (false, eval e X.env) :: starEach es X.env := by rfl) (hpl : (backTo pos (starEach es X.env)).any (·.1) = false := by rfl) :
    EO X W G (.Call (.Name x p) (e :: es) [] pos) (oCallF (F fuel) fa) := by
  obtain ⟨t, pt, rt⟩ := ha.ex
  exact ⟨tCallS (spD X.K G.cm n F) (WE W) t, pe_callS F0 hr hg hm hk hb (fun σ => passAt tk σ) pt hdb he hpl, call_argO rt fuel fun ds l ds' e => (ha.len ds l ds' e).trans hn⟩
/-- raise X() -/
theorem pmk_own0 {C : Addr} {bmB : List Value} {B newId initId : String} {x : Str} {p pos : Pos} (F : ExcBaseFacts B newId initId bmB) (q : PySem.W.excIn X.K C bmB newId = true) (gC : X.mg x = some (.ref C)) (kC : PySem.W.keepIn X.K (.ref C) = true) (r : Raises X (.ref C)) (hg : Gl X x)
    (hdb : (x == ("__debug__" : Str)) = false := by decide) : PMk X (.Call (.Name x p) [] [] pos) (fun _ H Q => Q (.ref C) none H) := by
  intro pins s σ H Q I h
  refine wpAny_Call_Name_kw (ld_glob I hg gC ?_ hdb)
  refine PySem.W.callWith_K0 (first := []) I.kIn kC ?_
  show wpAny _ _ (call (.ref C) []) _ _ _
  obtain ⟨bm, N, nm, qn, bs, hdct, sn, sub, ab, col, dd, k0, k1, k2, k3, k5, mN, hC, hN, hni, T⟩ := exc_obj I.kIn q
  refine PySem.wpAny_call_exc_subT F T hC hN hni (fun h' e hm => ?_) (by show 0 ≤ sizeLine; exact Nat.zero_le _)
  exact mk_of I hm r h (I.hok.gone hm.new)
/-- what the top tells of an exception class of the program -/
structure ExcK (K : PySem.W.Frag) (mg : Str → Option Value) (x : Str) (C : Addr) : Prop where
  q : PySem.W.excIn K C [.type "ValueError", .type "Exception", .type "BaseException", .type "object"] "ValueError.__new__" = true
  g : mg x = some (.ref C)
  k : PySem.W.keepIn K (.ref C) = true
  s : PySem.W.subIn K (.ref C) (.type "BaseException") = some true
  t : PySem.W.typeIn K (.ref C) = some (.type "type")
def sExc (c : Nat) (ds : DS) : Out := .exc c ds
theorem sd_raise0 (c : Nat) {x : Str} {p pos pos' : Pos} (E : ExcK X.K X.mg x (G.cm c)) (tk : Takes X W) (hc : X.calm = true := by rfl) (hg : Gl X x := by rfl) (hdb : (x == ("__debug__" : Str)) = false := by decide) : SD X W G (.Raise (some (.Call (.Name x p) [] [] pos)) none pos') (sExc c) :=
  ⟨_, ps_raise hc tk (pmk_own0 PySem.F.excBase_ValueError E.q E.g E.k (raises_own E.s E.t) hg hdb), fun b O H σ ds En I h => h none σ H O I Ext.refl⟩
end
end
end DL

/-! DF: dicts as pairs; owned lists and dicts read and changed -/
namespace DL
open PySem L2

/-! ### dicts -/
theorem beqL_iff (h : ∀ a b : D, True) : True := trivial
mutual
theorem D.beq_eq : ∀ (a b : D), a.beq b = true → a = b
  | .non, b, h => by cases b <;> simp [D.beq] at h; rfl
  | .bl x, b, h => by cases b <;> simp [D.beq] at h; rw [h]
  | .int x, b, h => by cases b <;> simp [D.beq] at h; rw [h]
  | .str x, b, h => by cases b <;> simp [D.beq] at h; rw [h]
  | .op x, b, h => by cases b <;> simp [D.beq] at h; rw [h]
  | .scr x, b, h => by cases b <;> simp [D.beq] at h; rw [h]
  | .tup x, b, h => by
    cases b <;> simp only [D.beq, Bool.false_eq_true] at h
    rw [D.beqL_eq x _ h]
  | .ktup x, b, h => by
    cases b <;> simp only [D.beq, Bool.false_eq_true] at h
    rw [D.beqL_eq x _ h]
  | .lst x, b, h => by
    cases b <;> simp only [D.beq, Bool.false_eq_true] at h
    rw [D.beqL_eq x _ h]
  | .dic t x, b, h => by
    cases b <;> simp only [D.beq, Bool.false_eq_true, Bool.and_eq_true, decide_eq_true_eq] at h
    rw [h.1, D.beqK_eq x _ h.2]
theorem D.beqL_eq : ∀ (a b : List D), D.beqL a b = true → a = b
  | [], b, h => by cases b <;> simp [D.beqL] at h; rfl
  | x :: r, b, h => by
    cases b <;> simp only [D.beqL, Bool.false_eq_true, Bool.and_eq_true] at h
    rw [D.beq_eq x _ h.1, D.beqL_eq r _ h.2]
theorem D.beqK_eq : ∀ (a b : List (D × D)), D.beqK a b = true → a = b
  | [], b, h => by cases b <;> simp [D.beqK] at h; rfl
  | (x, y) :: r, b, h => by
    cases b with
    | nil => simp [D.beqK] at h
    | cons p s =>
      obtain ⟨u, v⟩ := p
      simp only [D.beqK, Bool.and_eq_true] at h
      rw [D.beq_eq x _ h.1.1, D.beq_eq y _ h.1.2, D.beqK_eq r _ h.2]
end
mutual
theorem D.beq_refl : ∀ (a : D), a.beq a = true
  | .non => rfl
  | .bl x => by simp [D.beq]
  | .int x => by simp [D.beq]
  | .str x => by simp [D.beq]
  | .op x => by simp [D.beq]
  | .scr x => by simp [D.beq]
  | .tup x => by simp only [D.beq]; exact D.beqL_refl x
  | .ktup x => by simp only [D.beq]; exact D.beqL_refl x
  | .lst x => by simp only [D.beq]; exact D.beqL_refl x
  | .dic t x => by simp only [D.beq, decide_true, Bool.true_and]; exact D.beqK_refl x
theorem D.beqL_refl : ∀ (a : List D), D.beqL a a = true
  | [] => rfl
  | x :: r => by simp only [D.beqL, D.beq_refl x, D.beqL_refl r, Bool.and_self]
theorem D.beqK_refl : ∀ (a : List (D × D)), D.beqK a a = true
  | [] => rfl
  | (x, y) :: r => by simp only [D.beqK, D.beq_refl x, D.beq_refl y, D.beqK_refl r, Bool.and_self]
end
theorem D.beq_iff {a b : D} : a.beq b = true ↔ a = b := ⟨D.beq_eq a b, fun h => by rw [h]; exact D.beq_refl b⟩
theorem D.beq_dec {a b : D} {p : Prop} [Decidable p] (h : a = b ↔ p) : a.beq b = decide p := by
  cases e : a.beq b with
  | true => exact (decide_eq_true (h.mp (D.beq_eq a b e))).symm
  | false =>
    refine (decide_eq_false fun q => ?_).symm
    rw [h.mpr q, D.beq_refl] at e
    cases e
theorem beq_key (a c : Key) : (keyD a).beq (keyD c) = decide (a = c) := D.beq_dec ⟨keyD_inj, fun h => by rw [h]⟩
theorem keyDs_inj : ∀ {a c : List Key}, a.map keyD = c.map keyD → a = c
  | [], [], _ => rfl
  | [], _ :: _, h => by simp at h
  | _ :: _, [], h => by simp at h
  | x :: a, y :: c, h => by simp only [List.map_cons, List.cons.injEq] at h; rw [keyD_inj h.1, keyDs_inj h.2]
def keyT (q : List Key) : D := .tup (q.map keyD)
theorem beq_keyT (a c : List Key) : (keyT a).beq (keyT c) = decide (a = c) := D.beq_dec ⟨fun h => by unfold keyT at h; injection h with h; exact keyDs_inj h, fun h => by rw [h]⟩
section
variable {K : PySem.W.Frag} {H : Hp}
def RepO (K : PySem.W.Frag) (H : Hp) : Option D → Option V → Prop
  | none, none => True
  | some d, some v => Rep K H d v
  | _, _ => False
theorem RepK.get (q : Key) : ∀ {kvs : List (D × D)} {ks : List (Key × V)}, RepK K H kvs ks → RepO K H (dget kvs (keyD q)) (valV ks q)
  | [], ks, h => by unfold RepK at h; subst h; exact trivial
  | (k, d) :: r, ks, h => by
    unfold RepK at h
    obtain ⟨q', x, s, rfl, rfl, h1, h2⟩ := h
    have ih := RepK.get q h2
    unfold dget valV at ih ⊢
    rw [List.find?_cons, List.find?_cons, beq_key]
    by_cases e : q' = q
    · simp [e, RepO, h1]
    · simp only [e, decide_false]; exact ih
theorem RepT.get (q : List Key) : ∀ {kvs : List (D × D)} {ks : List (List Key × V)}, RepT K H kvs ks → RepO K H (dget kvs (keyT q)) (valV ks q)
  | [], ks, h => by unfold RepT at h; subst h; exact trivial
  | (k, d) :: r, ks, h => by
    unfold RepT at h
    obtain ⟨q', x, s, rfl, rfl, h1, h2⟩ := h
    have ih := RepT.get q h2
    unfold dget valV at ih ⊢
    rw [List.find?_cons, List.find?_cons, show (D.tup (q'.map keyD)) = keyT q' from rfl, beq_keyT]
    by_cases e : q' = q
    · simp [e, RepO, h1]
    · simp only [e, decide_false]; exact ih
theorem RepK.any (q : Key) : ∀ {kvs : List (D × D)} {ks : List (Key × V)}, RepK K H kvs ks → kvs.any (fun kv => kv.1.beq (keyD q)) = ks.any fun kv => decide (kv.1 = q)
  | [], ks, h => by unfold RepK at h; subst h; rfl
  | (k, d) :: r, ks, h => by
    unfold RepK at h
    obtain ⟨q', x, s, rfl, rfl, h1, h2⟩ := h
    simp only [List.any_cons, beq_key, RepK.any q h2]
theorem RepT.any (q : List Key) : ∀ {kvs : List (D × D)} {ks : List (List Key × V)}, RepT K H kvs ks → kvs.any (fun kv => kv.1.beq (keyT q)) = ks.any fun kv => decide (kv.1 = q)
  | [], ks, h => by unfold RepT at h; subst h; rfl
  | (k, d) :: r, ks, h => by
    unfold RepT at h
    obtain ⟨q', x, s, rfl, rfl, h1, h2⟩ := h
    simp only [List.any_cons, show (D.tup (q'.map keyD)) = keyT q' from rfl, beq_keyT, RepT.any q h2]
theorem RepK.repl (q : Key) {d : D} {v : V} (hd : Rep K H d v) : ∀ {kvs : List (D × D)} {ks : List (Key × V)}, RepK K H kvs ks → RepK K H (kvs.map fun kv => if kv.1.beq (keyD q) then (kv.1, d) else kv) (ks.map fun kv => if kv.1 = q then (kv.1, v) else kv)
  | [], ks, h => by unfold RepK at h; subst h; unfold RepK; rfl
  | (k, d') :: r, ks, h => by
    unfold RepK at h
    obtain ⟨q', x, s, rfl, rfl, h1, h2⟩ := h
    have ih := RepK.repl q hd h2
    simp only [List.map_cons, beq_key]
    by_cases e : q' = q
    · simp only [e, decide_true, if_true]; unfold RepK; exact ⟨q, v, _, rfl, rfl, hd, ih⟩
    · simp only [e, decide_false, if_false]; unfold RepK; exact ⟨q', x, _, rfl, rfl, h1, ih⟩
theorem RepT.repl (q : List Key) {d : D} {v : V} (hd : Rep K H d v) : ∀ {kvs : List (D × D)} {ks : List (List Key × V)}, RepT K H kvs ks → RepT K H (kvs.map fun kv => if kv.1.beq (keyT q) then (kv.1, d) else kv) (ks.map fun kv => if kv.1 = q then (kv.1, v) else kv)
  | [], ks, h => by unfold RepT at h; subst h; unfold RepT; rfl
  | (k, d') :: r, ks, h => by
    unfold RepT at h
    obtain ⟨q', x, s, rfl, rfl, h1, h2⟩ := h
    have ih := RepT.repl q hd h2
    simp only [List.map_cons, show (D.tup (q'.map keyD)) = keyT q' from rfl, beq_keyT]
    by_cases e : q' = q
    · simp only [e, decide_true, if_true]; unfold RepT; exact ⟨q, v, _, rfl, rfl, hd, ih⟩
    · simp only [e, decide_false, if_false]; unfold RepT; exact ⟨q', x, _, rfl, rfl, h1, ih⟩
theorem RepK.app : ∀ {kvs : List (D × D)} {ks : List (Key × V)} {q : Key} {d : D} {v : V}, RepK K H kvs ks → Rep K H d v → RepK K H (kvs ++ [(keyD q, d)]) (ks ++ [(q, v)])
  | [], ks, q, d, v, h, g => by unfold RepK at h; subst h; simp only [List.nil_append]; unfold RepK; exact ⟨q, v, [], rfl, rfl, g, by unfold RepK; rfl⟩
  | (k, d') :: r, ks, q, d, v, h, g => by
    unfold RepK at h
    obtain ⟨q', x, s, rfl, rfl, h1, h2⟩ := h
    simp only [List.cons_append]
    unfold RepK
    exact ⟨q', x, _, rfl, rfl, h1, RepK.app h2 g⟩
theorem RepT.app : ∀ {kvs : List (D × D)} {ks : List (List Key × V)} {q : List Key} {d : D} {v : V}, RepT K H kvs ks → Rep K H d v → RepT K H (kvs ++ [(keyT q, d)]) (ks ++ [(q, v)])
  | [], ks, q, d, v, h, g => by unfold RepT at h; subst h; simp only [List.nil_append]; unfold RepT; exact ⟨q, v, [], rfl, rfl, g, by unfold RepT; rfl⟩
  | (k, d') :: r, ks, q, d, v, h, g => by
    unfold RepT at h
    obtain ⟨q', x, s, rfl, rfl, h1, h2⟩ := h
    simp only [List.cons_append]
    unfold RepT
    exact ⟨q', x, _, rfl, rfl, h1, RepT.app h2 g⟩
theorem RepK.put (q : Key) {d : D} {v : V} (hd : Rep K H d v) {kvs : List (D × D)} {ks : List (Key × V)} (h : RepK K H kvs ks) : RepK K H (dput kvs (keyD q) d) (putK ks q v) := by
  unfold dput putK
  rw [RepK.any q h]
  split
  · exact RepK.repl q hd h
  · exact RepK.app h hd
theorem RepT.put (q : List Key) {d : D} {v : V} (hd : Rep K H d v) {kvs : List (D × D)} {ks : List (List Key × V)} (h : RepT K H kvs ks) : RepT K H (dput kvs (keyT q) d) (putK ks q v) := by
  unfold dput putK
  rw [RepT.any q h]
  split
  · exact RepT.repl q hd h
  · exact RepT.app h hd
theorem dput_len (kvs : List (D × D)) (k v : D) : (dput kvs k v).length ≤ kvs.length + 1 := by
  unfold dput
  split
  · simp
  · simp
/-- a datum as a key -/
def asKey : D → Option Key
  | .int i => some (.inl i)
  | .str s => some (.inr (sv s))
  | _ => none
def asKeys : List D → Option (List Key)
  | [] => some []
  | d :: r => match asKey d, asKeys r with
    | some k, some ks => some (k :: ks)
    | _, _ => none
theorem asKey_eq {d : D} {k : Key} (e : asKey d = some k) : d = keyD k := by
  cases d <;> simp only [asKey, Option.some.injEq, reduceCtorEq] at e
  · subst e; rfl
  · subst e; simp [keyD, sv_list]
theorem asKeys_eq : ∀ {ds : List D} {ks : List Key}, asKeys ds = some ks → ds = ks.map keyD
  | [], ks, e => by simp only [asKeys, Option.some.injEq] at e; subst e; rfl
  | d :: r, ks, e => by
    simp only [asKeys] at e
    split at e
    · rename_i k ks' e1 e2
      cases e
      rw [List.map_cons, ← asKey_eq e1, ← asKeys_eq e2]
    · cases e
theorem Rep.key {d : D} {v : V} {k : Key} (h : Rep K H d v) (e : asKey d = some k) : v = kV k := by
  have := asKey_eq e
  subst this
  cases k with
  | inl i => exact rep_int.mp h
  | inr s => unfold keyD Rep at h; rw [h.1, sv_of]; rfl
theorem RepL.keys : ∀ {ds : List D} {xs : List V} {ks : List Key}, RepL K H ds xs → asKeys ds = some ks → xs = ks.map kV
  | [], xs, ks, h, e => by unfold RepL at h; simp only [asKeys, Option.some.injEq] at e; subst e; exact h
  | d :: r, xs, ks, h, e => by
    unfold RepL at h
    obtain ⟨x, s, rfl, h1, h2⟩ := h
    simp only [asKeys] at e
    split at e
    · rename_i k ks' e1 e2
      cases e
      rw [List.map_cons, ← Rep.key h1 e1, ← RepL.keys h2 e2]
    · cases e
/-- the kind of key fits the kind of dict -/
def fitK (t : Nat) (k : D) : Bool := match t, k with
  | 0, k => (asKey k).isSome
  | 1, .tup ks => (asKeys ks).isSome
  | _, _ => false
/-- what a look-up finds -/
theorem Rep.dget_ {t : Nat} {kvs : List (D × D)} {k : D} {v y : V} {H2 : Hp} (s : ∀ a u, NF u → Rd H a u → Rd H2 a u) (tp : ∀ a xs, H a = some (.tup xs) → H2 a = some (.tup xs)) (h : Rep K H (.dic t kvs) v) (hk : Rep K H k y) (f : fitK t k = true) : ∃ a o, v = .ref a ∧ DGet H2 a y o ∧ RepO K H (dget kvs k) o := by
  unfold Rep at h
  obtain ⟨a, rfl, l, h⟩ := h
  rcases h with ⟨rfl, ks, q, r⟩ | ⟨rfl, ks, q, r⟩
  · simp only [fitK] at f
    obtain ⟨k', e⟩ := Option.isSome_iff_exists.mp f
    refine ⟨a, _, rfl, .inl ⟨ks, k', s _ _ nf_dK q, Rep.key hk e, rfl⟩, ?_⟩
    rw [asKey_eq e]
    exact RepK.get k' r
  · cases k <;> simp only [fitK, Bool.false_eq_true] at f
    rename_i dks
    obtain ⟨k', e⟩ := Option.isSome_iff_exists.mp f
    unfold Rep at hk
    obtain ⟨b, xs, rfl, hb, hr, _⟩ := hk
    refine ⟨a, _, rfl, .inr ⟨ks, k', b, s _ _ nf_dT q, rfl, ?_, rfl⟩, ?_⟩
    · rw [← RepL.keys hr e]; exact tp _ _ hb
    · rw [asKeys_eq e]
      exact RepT.get k' r
end

/-! ### an owned object changed -/
theorem hide_own {H : Hp} {O : Addr → Bool} {p : Addr} {o : HO} (h : O p = true) : hide (upd H p o) O = hide H O := by
  funext a
  unfold hide
  by_cases e : a = p
  · subst e; simp [h]
  · rw [upd_ne e]
section
variable {X : Cx} {W : WX} {G : Gx} {b : Bx} {O : Addr → Bool} {H : Hp} {σ : L2.St} {ds : DS}
theorem DI.own {K : PySem.W.Frag} {i : Nat} {c : Ct} (I : DI K G b O H σ ds) (e : ds[i]? = some (.own c)) : ∃ p o, σ[i]? = some (some (.ref p)) ∧ O p = true ∧ b.B p = false ∧ H p = some o ∧ CtR K G.cm (hide H O) c o := I.slot i _ e
theorem CtR.nofrz {K : PySem.W.Frag} {cm : Nat → Addr} {H : Hp} {c : Ct} {o : HO} (h : CtR K cm H c o) : ∀ ob u, o ≠ .frz ob u := by
  cases c with
  | l xs => obtain ⟨_, rfl, _⟩ := h; exact fun _ _ z => nomatch z
  | d t kvs =>
    obtain ⟨_, h⟩ := h
    rcases h with ⟨_, _, rfl, _⟩ | ⟨_, _, rfl, _⟩ <;> exact fun _ _ z => nomatch z
  | i c fs => obtain ⟨_, _, rfl, _⟩ := h; exact fun _ _ z => nomatch z
theorem DI.upd {K : PySem.W.Frag} {i : Nat} {c c' : Ct} {p : Addr} {o' : HO} (I : DI K G b O H σ ds) (e : ds[i]? = some (.own c)) (e1 : σ[i]? = some (some (.ref p))) (r : CtR K G.cm (hide H O) c' o') : DI K G b O (upd H p o') σ (ds.set i (.own c')) := by
  obtain ⟨p', o, e2, hp, hb, h3, h4⟩ := I.own e
  rw [e1] at e2
  cases e2
  refine ⟨by simpa using I.len, fun j x hj => ?_, fun j k cj ck q h1 h2 h3 h4 => ?_, I.sub, fun q hq => ?_, I.pidx, fun a ha => ?_, I.new, fun a ha => ?_⟩
  · rcases set_cases hj with ⟨rfl, rfl, hl⟩ | ⟨hne, hx⟩
    · exact ⟨p, o', e1, hp, hb, upd_same, by rw [hide_own hp]; exact r⟩
    · have q := I.slot j x hx
      cases x with
      | emp => trivial
      | val d => obtain ⟨v, q1, q2⟩ := q; exact ⟨v, q1, by rw [hide_own hp]; exact q2⟩
      | own cj =>
        obtain ⟨pj, oj, q1, q2, q3, q4, q5⟩ := q
        refine ⟨pj, oj, q1, q2, q3, ?_, by rw [hide_own hp]; exact q5⟩
        rw [upd_ne fun z => hne (I.sep j i cj c p hx e (by rw [q1, z]) e1)]
        exact q4
  · have k1 : ∃ c, ds[j]? = some (.own c) := by
      rcases set_cases h1 with ⟨rfl, _, _⟩ | ⟨_, z⟩
      · exact ⟨c, e⟩
      · exact ⟨_, z⟩
    have k2 : ∃ c, ds[k]? = some (.own c) := by
      rcases set_cases h2 with ⟨rfl, _, _⟩ | ⟨_, z⟩
      · exact ⟨c, e⟩
      · exact ⟨_, z⟩
    obtain ⟨_, k1⟩ := k1
    obtain ⟨_, k2⟩ := k2
    exact I.sep j k _ _ q k1 k2 h3 h4
  · obtain ⟨q1, c2, q2⟩ := I.pin q hq
    refine ⟨q1, ?_⟩
    by_cases z : q.1 = i
    · rw [z]; exact ⟨c', by rw [List.getElem?_set_self (List.getElem?_eq_some_iff.mp e).1]⟩
    · exact ⟨c2, by rw [get_set_ne (Ne.symm z)]; exact q2⟩
  · by_cases z : a = p
    · subst z; rw [upd_same]; simp
    · rw [upd_ne z]; exact I.trk a ha
  · by_cases z : a = p
    · subst z; rw [upd_same] at ha; cases ha
    · rw [upd_ne z] at ha; exact I.ent a ha
theorem Ext.upd {K : PySem.W.Frag} {i : Nat} {c : Ct} {p : Addr} {o' : HO} (I : DI K G b O H σ ds) (e : ds[i]? = some (.own c)) (e1 : σ[i]? = some (some (.ref p))) : Ext b H O (L2.upd H p o') O := by
  obtain ⟨p', o, e2, hp, hb, h3, h4⟩ := I.own e
  rw [e1] at e2
  cases e2
  refine ⟨fun a ha => upd_ne fun z => ?_, by rw [hide_own hp]; exact Same.refl _, fun a ha => ?_, fun a ob u ha => ?_⟩
  · rw [z, hb] at ha; cases ha
  · by_cases z : a = p
    · subst z; rw [upd_same] at ha; cases ha
    · rw [upd_ne z] at ha; exact ha
  · rw [upd_ne fun z => by subst z; rw [h3] at ha; exact h4.nofrz _ _ (Option.some.inj ha)]
    exact ha
/-- a name's place, as rules ask -/
abbrev VisX (X : Cx) (x : Str) : Prop := Vis X.env.scope x
/-- xs.append(e) -/
def sApp (i : Nat) (f : DS → R (D × DS)) (ds : DS) : Out := match ds[i]? with
  | some (.own (.l _)) => toOut (f ds) fun d ds' => match ds'[i]? with
    | some (.own (.l xs)) => if xs.length < Ln then .nx (ds'.set i (.own (.l (xs ++ [d])))) else .stuck
    | _ => .stuck
  | _ => .stuck
theorem sd_app (i : Nat) {x : Str} {e : Expr} {f : DS → R (D × DS)} {p apos cpos pos : Pos} (he : ED X W G e f) (hN : X.N[i]? = some x := by rfl) (hv : Vis X.env.scope x := by first | exact Or.inl rfl | exact Or.inr (Or.inl rfl) | exact Or.inr (Or.inr rfl))
    (hd : (x == ("__debug__" : Str)) = false := by decide) (hcd : (x == ("__classdict__" : Str)) = false := by decide)
    (hbase : attributeBase (.Name x p) "append" X.env (eval (.Name x p) X.env) = eval (.Name x p) X.env := by rfl)
    (hfew : ((backTo cpos (starEach [e] X.env)).all (fun x => !x.1) && (backToKw cpos (keywordEach [] X.env)).all (fun x => x.1.isSome)
      && decide ([e].length + ([] : List Keyword).length + (if ([] : List Keyword).isEmpty then 0 else 1) < 30)) = true := by rfl)
    (hline : (apos.endLine == cpos.line) = true := by rfl) (hs0 : starEach [e] X.env = (false, eval e X.env) :: starEach [] X.env := by rfl) (hplain : (backTo cpos (starEach [] X.env)).any (·.1) = false := by rfl)
    (hs : swapsWith (.Call (.Attribute (.Name x p) "append" apos) [e] [] cpos) none pos.line X.env = pure false := by rfl) : SD X W G (.Expr (.Call (.Attribute (.Name x p) "append" apos) [e] [] cpos) pos) (sApp i f) := by
  obtain ⟨t, pt, r⟩ := he.ex
  refine ⟨tDrop (tBM X.K "list" rAppend (tVar i) (tCons t tNil)), ps_expr (pe_bm PySem.F.plainAttrs_list PySem.F.slot_list_append PySem.F.type_list_append mt_append (pe_var hN hv hd hcd) (pa_cons pt pa_nil hs0) hbase hfew hline hs0 hplain) hs, fun b O H σ ds E I h => ?_⟩
  unfold sApp at h
  split at h
  · rename_i xs0 e0
    obtain ⟨p0, o, e1, hp, hb, h3, ys0, rfl, _, _⟩ := I.own e0
    refine ⟨_, e1, .inl ⟨rfl, _, SqL.of h3⟩, r b O H σ ds _ I (SPost.eval h fun d ds' v H' O' w1 I' w2 q h' => ?_)⟩
    split at h'
    · rename_i xs e2
      obtain ⟨p1, o1, g1, g2, g3, g4, ys, rfl, g5, g6⟩ := I'.own e2
      rw [e1] at g1
      cases g1
      split at h'
      · rename_i hl
        refine ⟨p0, ys, v, rfl, rfl, g4, by rw [g5.length, Ln_eq]; exact hl, ?_⟩
        exact h' σ _ O' (I'.upd e2 e1 ⟨ys ++ [v], rfl, g5.append (RepL.one q), by rw [List.length_append]; exact hl⟩) (Ext.upd I' e2 e1)
      · exact h'.elim
    · exact h'.elim
  · exact h.elim
/-- xs.extend(e) -/
def sExt (i : Nat) (f : DS → R (D × DS)) (ds : DS) : Out := match ds[i]? with
  | some (.own (.l _)) => toOut (f ds) fun d ds' => match ds'[i]?, d with
    | some (.own (.l xs)), .lst ys => if xs.length + ys.length ≤ Ln then .nx (ds'.set i (.own (.l (xs ++ ys)))) else .stuck
    | _, _ => .stuck
  | _ => .stuck
theorem sd_ext (i : Nat) {x : Str} {e : Expr} {f : DS → R (D × DS)} {p apos cpos pos : Pos} (he : ED X W G e f) (hN : X.N[i]? = some x := by rfl) (hv : Vis X.env.scope x := by first | exact Or.inl rfl | exact Or.inr (Or.inl rfl) | exact Or.inr (Or.inr rfl))
    (hd : (x == ("__debug__" : Str)) = false := by decide) (hcd : (x == ("__classdict__" : Str)) = false := by decide)
    (hbase : attributeBase (.Name x p) "extend" X.env (eval (.Name x p) X.env) = eval (.Name x p) X.env := by rfl)
    (hfew : ((backTo cpos (starEach [e] X.env)).all (fun x => !x.1) && (backToKw cpos (keywordEach [] X.env)).all (fun x => x.1.isSome)
      && decide ([e].length + ([] : List Keyword).length + (if ([] : List Keyword).isEmpty then 0 else 1) < 30)) = true := by rfl)
    (hline : (apos.endLine == cpos.line) = true := by rfl) (hs0 : starEach [e] X.env = (false, eval e X.env) :: starEach [] X.env := by rfl) (hplain : (backTo cpos (starEach [] X.env)).any (·.1) = false := by rfl)
    (hs : swapsWith (.Call (.Attribute (.Name x p) "extend" apos) [e] [] cpos) none pos.line X.env = pure false := by rfl) : SD X W G (.Expr (.Call (.Attribute (.Name x p) "extend" apos) [e] [] cpos) pos) (sExt i f) := by
  obtain ⟨t, pt, r⟩ := he.ex
  refine ⟨tDrop (tBM X.K "list" rExtend (tVar i) (tCons t tNil)), ps_expr (pe_bm PySem.F.plainAttrs_list PySem.F.slot_list_extend PySem.F.type_list_extend mt_extend (pe_var hN hv hd hcd) (pa_cons pt pa_nil hs0) hbase hfew hline hs0 hplain) hs, fun b O H σ ds E I h => ?_⟩
  unfold sExt at h
  split at h
  · rename_i xs0 e0
    obtain ⟨p0, o, e1, hp, hb, h3, ys0, rfl, _, _⟩ := I.own e0
    refine ⟨_, e1, .inl ⟨rfl, _, SqL.of h3⟩, r b O H σ ds _ I (SPost.eval h fun d ds' v H' O' w1 I' w2 q h' => ?_)⟩
    split at h'
    · rename_i xs ys e2
      obtain ⟨p1, o1, g1, g2, g3, g4, zs, rfl, g5, g6⟩ := I'.own e2
      rw [e1] at g1
      cases g1
      split at h'
      · rename_i hl
        have q : Rep X.K (hide H' O') (.lst ys) v := q
        unfold Rep at q
        obtain ⟨a, ws, rfl, q1, q2, q3⟩ := q
        refine ⟨p0, a, zs, ws, rfl, rfl, g4, (hide_of q1).1, by rw [g5.length, q2.length, Ln_eq]; exact hl, ?_⟩
        exact h' σ _ O' (I'.upd e2 e1 ⟨zs ++ ws, rfl, g5.append q2, by rw [List.length_append]; exact hl⟩) (Ext.upd I' e2 e1)
      · exact h'.elim
    · exact h'.elim
  · exact h.elim
/-- d[k] = e -/
def sDPutD (i : Nat) (fk fv : DS → R (D × DS)) (ds : DS) : Out := toOut (fv ds) fun d ds1 => match ds1[i]? with
  | some (.own (.d _ _)) => toOut (fk ds1) fun k ds2 => match ds2[i]? with
    | some (.own (.d t kvs)) => if fitK t k = true ∧ kvs.length < Ln then .nx (ds2.set i (.own (.d t (dput kvs k d)))) else .stuck
    | _ => .stuck
  | _ => .stuck
theorem sd_dput (i : Nat) {x : Str} {k e : Expr} {fk fv : DS → R (D × DS)} {p pos pos' : Pos} (hu : X.A.units + 1 < cLine) (hk : ED X W G k fk) (he : ED X W G e fv) (hN : X.N[i]? = some x := by rfl) (hv : Vis X.env.scope x := by first | exact Or.inl rfl | exact Or.inr (Or.inl rfl) | exact Or.inr (Or.inr rfl))
    (hd : (x == ("__debug__" : Str)) = false := by decide) (hcd : (x == ("__classdict__" : Str)) = false := by decide)
    (hs : swapsWith e (some (.Subscript (.Name x p) k pos')) pos.line X.env = pure false := by rfl) : SD X W G (.Assign [.Subscript (.Name x p) k pos'] e pos) (sDPutD i fk fv) := by
  obtain ⟨tk, pk, rk⟩ := hk.ex
  obtain ⟨tv, pv', rv⟩ := he.ex
  refine ⟨sDPut (tVar i) tk tv, ps_dput hu (pe_var hN hv hd hcd) pk pv' hs, fun b O H σ ds E I h => ?_⟩
  refine rv b O H σ ds _ I (SPost.eval h fun d ds1 v H1 O1 w1 I1 x1 q h1 => ?_)
  split at h1
  · rename_i t0 kvs0 e0
    obtain ⟨p0, o, e1, hp, hb, h3, _⟩ := I1.own e0
    refine ⟨_, e1, rk b O1 H1 σ ds1 _ I1 (SPost.eval h1 fun k ds2 y H2 O2 w2 I2 x2 q2 h2 => ?_)⟩
    split at h2
    · rename_i t kvs e2
      obtain ⟨p1, o1, g1, g2, g3, g4, g5, g6⟩ := I2.own e2
      rw [e1] at g1
      cases g1
      split at h2
      · rename_i hf
        obtain ⟨hf, hl⟩ := hf
        have rd : Rep X.K (hide H2 O2) d v := Rep.mono x2.same _ _ q
        have hl2 : (dput kvs k d).length ≤ Ln := Nat.le_trans (dput_len kvs k d) hl
        rcases g6 with ⟨rfl, ks, rfl, r⟩ | ⟨rfl, ks, rfl, r⟩
        · simp only [fitK] at hf
          obtain ⟨k', ek⟩ := Option.isSome_iff_exists.mp hf
          refine ⟨p0, _, rfl, .inl ⟨ks, k', g4, Rep.key q2 ek, by rw [r.length, Ln_eq]; exact hl, rfl⟩, ?_⟩
          exact h2 σ _ O2 (I2.upd e2 e1 ⟨hl2, .inl ⟨rfl, _, rfl, by rw [asKey_eq ek]; exact RepK.put k' rd r⟩⟩) (Ext.upd I2 e2 e1)
        · cases k <;> simp only [fitK, Bool.false_eq_true] at hf
          rename_i dks
          obtain ⟨k', ek⟩ := Option.isSome_iff_exists.mp hf
          have q2 : Rep X.K (hide H2 O2) (.tup dks) y := q2
          unfold Rep at q2
          obtain ⟨a, xs, rfl, qa, qr, _⟩ := q2
          refine ⟨p0, _, rfl, .inr ⟨ks, k', a, g4, rfl, by rw [← RepL.keys qr ek]; exact (hide_of qa).1, by rw [r.length, Ln_eq]; exact hl, rfl⟩, ?_⟩
          exact h2 σ _ O2 (I2.upd e2 e1 ⟨hl2, .inr ⟨rfl, _, rfl, by rw [asKeys_eq ek]; exact RepT.put k' rd r⟩⟩) (Ext.upd I2 e2 e1)
      · exact h2.elim
    · exact h2.elim
  · exact h1.elim
end
end DL

/-! DG: list comprehensions -/
namespace DL
open PySem L2

def tE (K : PySem.W.Frag) (G : Gx) (W : WX) (f : DS → R (D × DS)) : TE := fun σ H Q => ∃ b O ds, DI K G b O H σ ds ∧ EPost K G b W (relE K) H O σ Q (f ds)
def tT (K : PySem.W.Frag) (G : Gx) (W : WX) (f : DS → R (Bool × DS)) : TT := fun σ H Q => ∃ b O ds, DI K G b O H σ ds ∧ EPost K G b W relB H O σ Q (f ds)
theorem ED.pe {X : Cx} {W : WX} {G : Gx} {e : Expr} {f : DS → R (D × DS)} (h : ED X W G e f) : PE X e (tE X.K G W f) := by
  obtain ⟨t, p, r⟩ := h.ex
  exact ⟨fun pins s σ H Q I ⟨b, O, ds, I', h⟩ => p.run pins s σ H Q I (r b O H σ ds Q I' h)⟩
/-- the tests of a comprehension -/
structure PTD (X : Cx) (W : WX) (G : Gx) (ifs : List Expr) (f : DS → R (Bool × DS)) : Prop where
  ex : ∃ t, PTs X ifs t ∧ ∀ b O H σ ds Q, DI X.K G b O H σ ds → EPost X.K G b W relB H O σ Q (f ds) → t σ H Q
def bYes (ds : DS) : R (Bool × DS) := .ok (true, ds)
theorem ptd_nil {X : Cx} {W : WX} {G : Gx} : PTD X W G [] bYes := ⟨tYes, pts_nil, fun b O H σ ds Q I h => EPost.done (rel := relB) h I rfl⟩
theorem ptd_one {X : Cx} {W : WX} {G : Gx} {c : Expr} {f : DS → R (Bool × DS)} (h : TD X W G c f) : PTD X W G [c] f := let ⟨t, p, r⟩ := h.ex; ⟨t, pts_one p, r⟩
theorem PTD.pts {X : Cx} {W : WX} {G : Gx} {ifs : List Expr} {f : DS → R (Bool × DS)} (h : PTD X W G ifs f) : PTs X ifs (tT X.K G W f) := by
  obtain ⟨t, p, r⟩ := h.ex
  exact ⟨fun pins s σ H Q I ⟨b, O, ds, I', h⟩ => p.run pins s σ H Q I (r b O H σ ds Q I' h)⟩
def gE (K : PySem.W.Frag) (G : Gx) (js : List Nat) (F : TgF) : TG := fun v σ H Q => ∃ b O ds d ds', DI K G b O H σ ds ∧ Rep K (hide H O) d v ∧ F d ds = some ds' ∧ ∀ σ', DI K G b O H σ' ds' → Agree js σ σ' → Q σ' H
theorem GD.pg {X : Cx} {G : Gx} {tg : Expr} {js : List Nat} {F : TgF} (h : GD X G tg js F) : PG X tg (gE X.K G js F) := by
  obtain ⟨t, p, r⟩ := h.ex
  exact ⟨fun pins s σ H v u Q I q ⟨b, O, ds, d, ds', I', h1, h2, h3⟩ => p.run pins s σ H v u Q I q (r b O H σ ds v d ds' Q I' h1 h2 h3)⟩

/-! ### the comprehension's own names -/
def wipeD (ds : DS) (vs : List Nat) : DS := vs.foldl (fun d i => d.set i .emp) ds
def put1 (ds0 : DS) (d : DS) (i : Nat) : DS := match ds0[i]? with
  | some s => d.set i s
  | none => d
def backD (vs : List Nat) (ds0 ds1 : DS) : DS := vs.foldl (put1 ds0) ds1
theorem wipeD_len : ∀ (vs : List Nat) (ds : DS), (wipeD ds vs).length = ds.length
  | [], _ => rfl
  | i :: vs, ds => by show (wipeD (ds.set i .emp) vs).length = _; rw [wipeD_len vs]; simp
theorem wipeD_out : ∀ (vs : List Nat) (ds : DS) (i : Nat), i ∉ vs → (wipeD ds vs)[i]? = ds[i]?
  | [], _, _, _ => rfl
  | j :: vs, ds, i, h => by
    show (wipeD (ds.set j .emp) vs)[i]? = _
    rw [wipeD_out vs _ i (fun z => h (List.mem_cons_of_mem _ z)), get_set_ne (fun z => h (by simp [z]))]
theorem wipeD_in : ∀ (vs : List Nat) (ds : DS) (i : Nat) (s : Sl), i ∈ vs → (wipeD ds vs)[i]? = some s → s = .emp
  | [], _, _, _, h, _ => by simp at h
  | j :: vs, ds, i, s, h, e => by
    have e : (wipeD (ds.set j .emp) vs)[i]? = some s := e
    by_cases hm : i ∈ vs
    · exact wipeD_in vs _ i s hm e
    · have hj : i = j := by simpa [hm] using h
      rw [wipeD_out vs _ i hm, hj] at e
      by_cases hl : j < ds.length
      · rw [List.getElem?_set_self hl] at e; cases e; rfl
      · rw [List.getElem?_eq_none (by simp; omega)] at e; cases e
theorem backD_len : ∀ (vs : List Nat) (ds0 ds1 : DS), (backD vs ds0 ds1).length = ds1.length
  | [], _, _ => rfl
  | i :: vs, ds0, ds1 => by
    show (backD vs ds0 (put1 ds0 ds1 i)).length = _
    rw [backD_len vs]
    unfold put1
    split <;> simp
theorem backD_out : ∀ (vs : List Nat) (ds0 ds1 : DS) (i : Nat), i ∉ vs → (backD vs ds0 ds1)[i]? = ds1[i]?
  | [], _, _, _, _ => rfl
  | j :: vs, ds0, ds1, i, h => by
    show (backD vs ds0 (put1 ds0 ds1 j))[i]? = _
    rw [backD_out vs _ _ i (fun z => h (List.mem_cons_of_mem _ z))]
    unfold put1
    split
    · rw [get_set_ne (fun z => h (by simp [z]))]
    · rfl
theorem backD_in : ∀ (vs : List Nat) (ds0 ds1 : DS) (i : Nat), i ∈ vs → ds0.length = ds1.length → (backD vs ds0 ds1)[i]? = ds0[i]?
  | [], _, _, _, h, _ => by simp at h
  | j :: vs, ds0, ds1, i, h, hl => by
    show (backD vs ds0 (put1 ds0 ds1 j))[i]? = _
    by_cases hm : i ∈ vs
    · exact backD_in vs ds0 _ i hm (by unfold put1; split <;> simp [hl])
    · have hj : i = j := by simpa [hm] using h
      subst hj
      rw [backD_out vs _ _ i hm]
      unfold put1
      cases e : ds0[i]? with
      | none =>
        show ds1[i]? = none
        rw [List.getElem?_eq_none_iff] at e ⊢
        omega
      | some s =>
        show (ds1.set i s)[i]? = some s
        have := (List.getElem?_eq_some_iff.mp e).1
        rw [List.getElem?_set_self (by omega)]
theorem wipe_len (σ : L2.St) (vs : List Nat) : (wipe σ vs).length = σ.length := wipe_length σ vs
theorem wipe_congr {σ σ' : L2.St} {vs : List Nat} (hl : σ'.length = σ.length) (h : ∀ j, j ∉ vs → σ'[j]? = (wipe σ vs)[j]?) : wipe σ' vs = wipe σ vs := by
  apply List.ext_getElem?
  intro j
  by_cases hj : j ∈ vs
  · have : ∀ (τ : L2.St), τ.length = σ.length → (wipe τ vs)[j]? = if j < σ.length then some none else none := fun τ ht => by
      by_cases hlt : j < σ.length
      · rw [if_pos hlt]
        cases e : (wipe τ vs)[j]? with
        | none => rw [List.getElem?_eq_none_iff, wipe_length] at e; omega
        | some o =>
          cases o with
          | none => rfl
          | some x => exact absurd hj (wipe_some e).2
      · rw [if_neg hlt, List.getElem?_eq_none_iff, wipe_length]; omega
    rw [this σ' hl, this σ rfl]
  · rw [wipe_out hj, h j hj]
section
variable {K : PySem.W.Frag} {G : Gx} {b : Bx} {O : Addr → Bool} {H : Hp} {σ : L2.St} {ds : DS}
/-- no name of the comprehension owns -/
def noOwn (vs : List Nat) (ds : DS) : Bool := vs.all fun i => match ds[i]? with
  | some (.own _) => false
  | _ => true
theorem noOwn_at {vs : List Nat} {ds : DS} (h : noOwn vs ds = true) {i : Nat} (hi : i ∈ vs) (c : Ct) : ds[i]? ≠ some (.own c) := fun e => by
  have := List.all_eq_true.mp h i hi
  rw [e] at this
  cases this
theorem DI.wiped {vs : List Nat} (I : DI K G b O H σ ds) (h : noOwn vs ds = true) : DI K G b O H (wipe σ vs) (wipeD ds vs) := by
  have key : ∀ {j : Nat} {c : Ct}, (wipeD ds vs)[j]? = some (.own c) → j ∉ vs ∧ ds[j]? = some (.own c) := fun {j c} e => by
    by_cases hj : j ∈ vs
    · cases wipeD_in vs ds j _ hj e
    · exact ⟨hj, by rw [wipeD_out vs ds j hj] at e; exact e⟩
  refine ⟨by rw [wipe_length, wipeD_len]; exact I.len, fun j s e => ?_, fun j k cj ck p h1 h2 h3 h4 => ?_, I.sub, fun q hq => ?_, I.pidx, I.trk, I.new, I.ent⟩
  · by_cases hj : j ∈ vs
    · cases wipeD_in vs ds j _ hj e; trivial
    · rw [wipeD_out vs ds j hj] at e
      rw [wipe_out hj]
      exact I.slot j s e
  · obtain ⟨n1, k1⟩ := key h1
    obtain ⟨n2, k2⟩ := key h2
    rw [wipe_out n1] at h3
    rw [wipe_out n2] at h4
    exact I.sep j k cj ck p k1 k2 h3 h4
  · obtain ⟨e, c, hc⟩ := I.pin q hq
    have hn : q.1 ∉ vs := fun z => noOwn_at h z c hc
    exact ⟨by rw [wipe_out hn]; exact e, c, by rw [wipeD_out vs ds _ hn]; exact hc⟩
/-- behind the block: the outer names as they were -/
theorem DI.unwiped {vs : List Nat} {O' : Addr → Bool} {H' : Hp} {σ2 : L2.St} {ds2 : DS} (I : DI K G b O H σ ds) (h : noOwn vs ds = true) (x : Ext b H O H' O') (I2 : DI K G b O' H' σ2 ds2) (hw : wipe σ2 vs = wipe σ vs) : DI K G b O' H' σ (backD vs ds ds2) := by
  have hl : σ2.length = σ.length := by
    have := congrArg List.length hw
    rwa [wipe_length, wipe_length] at this
  have hd : ds.length = ds2.length := by rw [← I.len, ← I2.len, hl]
  have so : ∀ {j : Nat}, j ∉ vs → σ2[j]? = σ[j]? := fun {j} hj => by rw [← wipe_out (σ := σ2) hj, hw, wipe_out hj]
  have key : ∀ {j : Nat} {c : Ct}, (backD vs ds ds2)[j]? = some (.own c) → j ∉ vs ∧ ds2[j]? = some (.own c) := fun {j c} e => by
    by_cases hj : j ∈ vs
    · rw [backD_in vs ds ds2 j hj hd] at e
      exact absurd e (noOwn_at h hj c)
    · exact ⟨hj, by rw [backD_out vs ds ds2 j hj] at e; exact e⟩
  refine ⟨by rw [backD_len, ← hd]; exact I.len, fun j s e => ?_, fun j k cj ck p h1 h2 h3 h4 => ?_, I2.sub, fun q hq => ?_, I.pidx, I2.trk, I2.new, I2.ent⟩
  · by_cases hj : j ∈ vs
    · rw [backD_in vs ds ds2 j hj hd] at e
      have q := I.slot j s e
      cases s with
      | emp => trivial
      | val d => obtain ⟨v, q1, q2⟩ := q; exact ⟨v, q1, Rep.mono x.same _ _ q2⟩
      | own c => exact absurd e (noOwn_at h hj c)
    · rw [backD_out vs ds ds2 j hj] at e
      rw [← so hj]
      exact I2.slot j s e
  · obtain ⟨n1, k1⟩ := key h1
    obtain ⟨n2, k2⟩ := key h2
    rw [← so n1] at h3
    rw [← so n2] at h4
    exact I2.sep j k cj ck p k1 k2 h3 h4
  · obtain ⟨e, c, hc⟩ := I.pin q hq
    have hn : q.1 ∉ vs := fun z => noOwn_at h z c hc
    obtain ⟨_, c2, hc2⟩ := I2.pin q hq
    exact ⟨e, c2, by rw [backD_out vs ds ds2 _ hn]; exact hc2⟩
/-- one more address that is not to be touched -/
abbrev Bx.add (b : Bx) (p : Addr) : Bx := { b with B := addO b.B p }
theorem DI.hold {p : Addr} {c : Ct} (I : DI K G b O H σ ds) (w : Own1 K G b O H σ ds p c) : DI K G (b.add p) O H σ ds := by
  refine ⟨I.len, fun j s e => ?_, I.sep, fun a ha => ?_, I.pin, I.pidx, I.trk, fun a ha => ?_, I.ent⟩
  · have q := I.slot j s e
    cases s with
    | emp => trivial
    | val d => exact q
    | own cj =>
      obtain ⟨pj, oj, q1, q2, q3, q4, q5⟩ := q
      refine ⟨pj, oj, q1, q2, ?_, q4, q5⟩
      cases z : (b.add p).B pj with
      | false => rfl
      | true =>
        by_cases zz : pj = p
        · exact absurd (by rw [q1, zz]) (w.no j cj e)
        · rw [of_addO z zz] at q3; cases q3
  · by_cases z : a = p
    · subst z; exact w.o
    · exact I.sub a (of_addO ha z)
  · rcases I.new a ha with q | q | q
    · exact .inl (addO_of q)
    · exact .inr (.inl q)
    · exact .inr (.inr q)
theorem DI.unhold {p : Addr} (I : DI K G (b.add p) O H σ ds) (nh : b.H0 p = none) : DI K G b O H σ ds := by
  refine ⟨I.len, fun j s e => ?_, I.sep, fun a ha => I.sub a (addO_of ha), I.pin, I.pidx, I.trk, fun a ha => ?_, I.ent⟩
  · have q := I.slot j s e
    cases s with
    | emp => trivial
    | val d => exact q
    | own cj =>
      obtain ⟨pj, oj, q1, q2, q3, q4, q5⟩ := q
      refine ⟨pj, oj, q1, q2, ?_, q4, q5⟩
      cases z : b.B pj with
      | false => rfl
      | true => rw [show (b.add p).B pj = true from addO_of z] at q3; cases q3
  · rcases I.new a ha with q | q | q
    · by_cases z : a = p
      · subst z; exact .inr (.inr nh)
      · exact .inl (of_addO q z)
    · exact .inr (.inl q)
    · exact .inr (.inr q)
theorem Ext.unhold {p : Addr} {H' : Hp} {O' : Addr → Bool} (x : Ext (b.add p) H O H' O') : Ext b H O H' O' := ⟨fun a ha => x.keep a (addO_of ha), x.sm, x.non, x.fz⟩
end

def quiet {α : Type} (r : R α) : R α := match r with
  | .exc _ _ => .stuck
  | r => r
def lcD (vs : List Nat) (g : TgF) (t : DS → R (Bool × DS)) (f : DS → R (D × DS)) : List D → DS → R (List D × DS)
  | [], ds => .ok ([], ds)
  | x :: xs, ds => if noOwn vs ds = true then (match g x (wipeD ds vs) with
    | none => .stuck
    | some ds1 => (quiet (t ds1)).bind fun p => if p.1 = true then (quiet (f p.2)).bind fun q => (lcD vs g t f xs (backD vs ds q.2)).bind fun r => .ok (q.1 :: r.1, r.2) else lcD vs g t f xs (backD vs ds p.2)) else .stuck
def oLc (vs : List Nat) (fi : DS → R (List D × DS)) (g : TgF) (t : DS → R (Bool × DS)) (f : DS → R (D × DS)) (ds : DS) : R (Ct × DS) := (fi ds).bind fun p => (lcD vs g t f p.1 p.2).bind fun r => .ok (.l r.1, r.2)
abbrev W0 : WX := fun _ _ _ _ => False
section
variable {X : Cx} {W : WX} {G : Gx}
theorem lc_runL {K : PySem.W.Frag} {Lk : L2.St → Hp → Prop} {wi : TI} {fi : DS → R (List D × DS)} {js vs : List Nat} {g : TgF} {t : DS → R (Bool × DS)} {f : DS → R (D × DS)} (hj : ∀ j ∈ js, j ∈ vs)
    (ri : ∀ b O H σ ds Rr, Lk σ H → DI K G b O H σ ds → EPost K G b W (ItD K) H O σ Rr (fi ds) → wi σ H Rr) :
    ∀ b O H σ ds Q, Lk σ H → DI K G b O H σ ds → OPost K G b W H O σ Q (oLc vs fi g t f ds) → tLc wi (gE K G js g) (tT K G W0 t) (tE K G W0 f) vs σ H Q := by
  intro b O H σ ds Q lk I h
  refine ri b O H σ ds _ lk I (OPost.bind h fun items ds1 J H1 O1 _ I1 x1 it h1 => ?_)
  intro D hD
  dsimp only at h1
  have Own0 : Own1 K G b (addO O1 D) (upd H1 D (.lst [])) σ ds1 D (.l []) := by
    refine ⟨addO_self, ?_, fun i c hi z => ?_, ⟨_, upd_same, [], rfl, RepL.nil, Nat.zero_le _⟩, I1.ent D hD⟩
    · cases q : b.B D with
      | false => rfl
      | true => exact absurd hD (I1.trk D (I1.sub D q))
    · obtain ⟨p, o, e, _, _, hp, _⟩ := I1.own hi
      rw [z] at e
      cases e
      rw [hD] at hp
      cases hp
  refine ⟨fun i m H2 => m = items.length - i ∧ i ≤ items.length ∧ ∃ O2 ds2 acc, DI K G b O2 H2 σ ds2 ∧ Ext b H1 O1 H2 O2 ∧ Own1 K G b O2 H2 σ ds2 D (.l acc) ∧ acc.length ≤ i ∧
      OPost K G b W H2 O2 σ Q ((lcD vs g t f (items.drop i) ds2).bind fun r => .ok (.l (acc ++ r.1), r.2)),
    ⟨_, rfl, Nat.zero_le _, addO O1 D, ds1, [], I1.made hD, Ext.made I1 hD, Own0, Nat.le_refl _, by simpa using OPost.step h1 (Ext.made I1 hD)⟩, ?_⟩
  rintro i m H2 ⟨rfl, hle, O2, ds2, acc, I2, x2, w2, ha, h2⟩
  by_cases hlt : i < items.length
  · right
    obtain ⟨g1, g2⟩ := it.go H2 O2 x2.sm (fun p np => fresh_O I2 np) i hlt
    refine ⟨g1, _, fun H' q => ⟨items.length - (i + 1), by omega, q⟩, fun x H3 y => ?_⟩
    obtain ⟨s3, rx⟩ := g2 x H3 y
    rw [drop_cons hlt] at h2
    unfold lcD at h2
    split at h2
    · rename_i hno
      cases e1 : g items[i] (wipeD ds2 vs) with
      | none => rw [e1] at h2; exact h2.elim
      | some ds3 =>
        rw [e1] at h2
        have Ih := I2.hold w2
        have I3 := Ih.new' s3
        have x3 : Ext (b.add D) H2 O2 H3 O2 := Ext.new Ih s3
        refine ⟨b.add D, O2, wipeD ds2 vs, _, ds3, I3.wiped hno, rx _ (List.getElem?_eq_getElem hlt), e1, fun σ3 I4 hσ => ?_⟩
        have hw : wipe σ3 vs = wipe σ vs := wipe_congr (by rw [hσ.len, wipe_length]) fun j hjv => hσ.out j fun z => hjv (hj j z)
        refine ⟨hw, b.add D, O2, ds3, I4, ?_⟩
        have h3 := OPost.step h2 x3.unhold
        dsimp only at h3
        cases e2 : t ds3 with
        | stuck => rw [e2] at h3; exact h3.elim
        | exc c d => rw [e2] at h3; exact h3.elim
        | ok q =>
          obtain ⟨bt, ds4⟩ := q
          rw [e2] at h3
          intro v H4 O4 I5 x5 hv
          cases (show bt = v from hv)
          have wl : ∀ (H' : Hp) (O' : Addr → Bool), Ext (b.add D) H2 O2 H' O' → H' D = H2 D := fun H' O' x' => x'.keep D addO_self
          have OD : ∀ {O' H' σ' ds'}, DI K G (b.add D) O' H' σ' ds' → O' D = true := fun I' => I'.sub D addO_self
          have xx := x3.trans x5
          obtain ⟨oD, hD2, hcD⟩ := w2.at_
          obtain ⟨ys, rfl, ry, ly⟩ := hcD
          cases bt with
          | false =>
            refine iteF ⟨rfl, hlt, O4, backD vs ds2 ds4, acc, (Ih.unwiped hno xx I5 hw).unhold w2.nw, x2.trans xx.unhold, ?_, Nat.le_succ_of_le ha, OPost.step h3 x5.unhold⟩
            refine ⟨OD I5, w2.nb, fun k ck hk z => ?_, ⟨_, (wl _ _ xx).trans hD2, ys, rfl, RepL.mono xx.same _ _ ry, ly⟩, w2.nw⟩
            obtain ⟨p, o, q1, q2, q3, _⟩ := (Ih.unwiped hno xx I5 hw).own hk
            rw [z] at q1
            cases q1
            rw [show (b.add D).B D = true from addO_self] at q3
            cases q3
          | true =>
            refine iteT ⟨b.add D, O4, ds4, I5, ?_⟩
            have h4 := OPost.step h3 x5.unhold
            have h4 : OPost K G b W H4 O4 σ Q (((quiet (f ds4)).bind fun q => (lcD vs g t f (items.drop (i + 1)) (backD vs ds2 q.2)).bind fun r => .ok (q.1 :: r.1, r.2)).bind fun r => .ok (.l (acc ++ r.1), r.2)) := h4
            cases e3 : f ds4 with
            | stuck => rw [e3] at h4; exact h4.elim
            | exc c d => rw [e3] at h4; exact h4.elim
            | ok q =>
              obtain ⟨y, ds5⟩ := q
              rw [e3] at h4
              intro yv H5 O5 I6 x6 ry2
              have xy := xx.trans x6
              have hD5 : H5 D = some (.lst ys) := (wl _ _ xy).trans hD2
              have Iu := Ih.unwiped hno xy I6 hw
              have OD5 := OD I6
              refine ⟨ys, hD5, by rw [ry.length, Ln_eq]; have := it.len; omega, rfl, hlt, O5, backD vs ds2 ds5, acc ++ [y], ?_, ?_, ?_, by rw [List.length_append]; exact Nat.succ_le_succ ha, ?_⟩
              · have Iv := Iu.unhold w2.nw
                refine ⟨Iv.len, fun k s hk => ?_, Iv.sep, Iv.sub, Iv.pin, Iv.pidx, fun a haa => ?_, Iv.new, fun a haa => ?_⟩
                · have q := Iu.slot k s hk
                  cases s with
                  | emp => trivial
                  | val d => obtain ⟨v, q1, q2⟩ := q; exact ⟨v, q1, by rw [hide_own OD5]; exact q2⟩
                  | own ck =>
                    obtain ⟨pk, ok, q1, q2, q3, q4, q5⟩ := q
                    refine ⟨pk, ok, q1, q2, ?_, ?_, by rw [hide_own OD5]; exact q5⟩
                    · cases z : b.B pk with
                      | false => rfl
                      | true => rw [show (b.add D).B pk = true from addO_of z] at q3; cases q3
                    · rw [upd_ne fun z => ?_]
                      · exact q4
                      · subst z; rw [show (b.add pk).B pk = true from addO_self] at q3; cases q3
                · by_cases z : a = D
                  · subst z; rw [upd_same]; simp
                  · rw [upd_ne z]; exact Iv.trk a haa
                · by_cases z : a = D
                  · subst z; rw [upd_same] at haa; cases haa
                  · rw [upd_ne z] at haa; exact Iv.ent a haa
              · refine (x2.trans xy.unhold).trans ⟨fun a haa => upd_ne fun z => ?_, by rw [hide_own OD5]; exact Same.refl _, fun a haa => ?_, fun a ob u haa => ?_⟩
                · subst z; rw [w2.nb] at haa; cases haa
                · by_cases z : a = D
                  · subst z; rw [upd_same] at haa; cases haa
                  · rw [upd_ne z] at haa; exact haa
                · rw [upd_ne fun z => by subst z; rw [hD5] at haa; cases haa]
                  exact haa
              · refine ⟨OD5, w2.nb, fun k ck hk z => ?_, ⟨_, upd_same, ys ++ [yv], rfl, ?_, ?_⟩, w2.nw⟩
                · obtain ⟨p, o, q1, q2, q3, _⟩ := Iu.own hk
                  rw [z] at q1
                  cases q1
                  rw [show (b.add D).B D = true from addO_self] at q3
                  cases q3
                · rw [hide_own OD5]
                  exact RepL.append (RepL.mono xy.same _ _ ry) (RepL.one ry2)
                · rw [List.length_append]; have := it.len; show acc.length + 1 ≤ Ln; omega
              · have h5 := OPost.step h4 x6.unhold
                have h5 : OPost K G b W H5 O5 σ Q (((lcD vs g t f (items.drop (i + 1)) (backD vs ds2 ds5)).bind fun r => .ok (y :: r.1, r.2)).bind fun r => .ok (.l (acc ++ r.1), r.2)) := h5
                have h6 : OPost K G b W H5 O5 σ Q ((lcD vs g t f (items.drop (i + 1)) (backD vs ds2 ds5)).bind fun r => .ok (.l ((acc ++ [y]) ++ r.1), r.2)) := by
                  cases e7 : lcD vs g t f (items.drop (i + 1)) (backD vs ds2 ds5) with
                  | stuck => rw [e7] at h5; exact h5
                  | exc c d => rw [e7] at h5; exact h5
                  | ok r => rw [e7] at h5; simpa [R.bind, List.append_assoc] using h5
                refine OPost.step h6 ⟨fun a haa => upd_ne fun z => ?_, by rw [hide_own OD5]; exact Same.refl _, fun a haa => ?_, fun a ob u haa => ?_⟩
                · subst z; rw [w2.nb] at haa; cases haa
                · by_cases z : a = D
                  · subst z; rw [upd_same] at haa; cases haa
                  · rw [upd_ne z] at haa; exact haa
                · rw [upd_ne fun z => by subst z; rw [hD5] at haa; cases haa]
                  exact haa
    · exact h2.elim
  · left
    have e : i = items.length := by omega
    subst e
    refine ⟨it.stop H2 O2 x2.sm, ?_⟩
    rw [List.drop_length] at h2
    have h2 : OPost K G b W H2 O2 σ Q (.ok (.l (acc ++ []), ds2)) := h2
    rw [List.append_nil] at h2
    exact h2 D H2 O2 I2 Ext.refl w2
theorem lc_run {K : PySem.W.Frag} {wi : TI} {fi : DS → R (List D × DS)} {js vs : List Nat} {g : TgF} {t : DS → R (Bool × DS)} {f : DS → R (D × DS)} (hj : ∀ j ∈ js, j ∈ vs)
    (ri : ∀ b O H σ ds Rr, DI K G b O H σ ds → EPost K G b W (ItD K) H O σ Rr (fi ds) → wi σ H Rr) :
    ∀ b O H σ ds Q, DI K G b O H σ ds → OPost K G b W H O σ Q (oLc vs fi g t f ds) → tLc wi (gE K G js g) (tT K G W0 t) (tE K G W0 f) vs σ H Q :=
  fun b O H σ ds Q I h => lc_runL (Lk := fun _ _ => True) hj (fun b O H σ ds Rr _ => ri b O H σ ds Rr) b O H σ ds Q trivial I h
theorem eo_lc {elt tg iter : Expr} {ifs : List Expr} {scope : Scope} {own : List (Str × Nat)} {pos : Pos} {fi : DS → R (List D × DS)} {js : List Nat} {g : TgF} {t : DS → R (Bool × DS)} {f : DS → R (D × DS)} (hN : X.N.Nodup) (hi : ID X W G tg iter fi) (ok : BlkOk X.N X.env.scope scope own)
    (hg : ∀ (s : Shared) (H : Hp) (C : Addr) (cl : List (Str × Addr)) (fp : List Addr), GD (X.blk s H scope (compEnvC scope cl C X.env) fp) G tg js g)
    (ht : ∀ (s : Shared) (H : Hp) (C : Addr) (cl : List (Str × Addr)) (fp : List Addr), PTD (X.blk s H scope (compEnvC scope cl C X.env) fp) W0 G ifs t)
    (he : ∀ (s : Shared) (H : Hp) (C : Addr) (cl : List (Str × Addr)) (fp : List Addr), ED (X.blk s H scope (compEnvC scope cl C X.env) fp) W0 G elt f)
    (hj : ∀ j ∈ js, j ∈ own.map (·.2) := by decide) (hc : X.calm = true := by rfl) (hs : ∀ x, foldedSetIterable iter X.env x = pure x := by intro _; rfl) : EO X W G (.ListComp elt [⟨tg, iter, ifs, 0⟩] scope pos) (oLc (own.map (·.2)) fi g t f) := by
  obtain ⟨wi, pi, ri⟩ := hi.ex
  exact ⟨tLc wi (gE X.K G js g) (tT X.K G W0 t) (tE X.K G W0 f) (own.map (·.2)), pe_lc hc hN pi ok (fun s H C cl fp => (hg s H C cl fp).pg) (fun s H C cl fp => (ht s H C cl fp).pts) (fun s H C cl fp => (he s H C cl fp).pe) hs, lc_run hj ri⟩
/-- name = [..] on one line: the name owns it; the name holds it -/
theorem sd_setLcO (i : Nat) {y : Str} {py : Pos} {elt tg iter : Expr} {ifs : List Expr} {scope : Scope} {own : List (Str × Nat)} {pos spos : Pos} {fi : DS → R (List D × DS)} {js : List Nat} {g : TgF} {t : DS → R (Bool × DS)} {f : DS → R (D × DS)} (hN : X.N.Nodup) (hi : ID X W G tg iter fi) (ok : BlkOk X.N X.env.scope scope own)
    (hg : ∀ (s : Shared) (H : Hp) (C : Addr) (cl : List (Str × Addr)) (fp : List Addr), GD (X.blk s H scope (compEnvC scope cl C X.env) fp) G tg js g)
    (ht : ∀ (s : Shared) (H : Hp) (C : Addr) (cl : List (Str × Addr)) (fp : List Addr), PTD (X.blk s H scope (compEnvC scope cl C X.env) fp) W0 G ifs t)
    (he : ∀ (s : Shared) (H : Hp) (C : Addr) (cl : List (Str × Addr)) (fp : List Addr), ED (X.blk s H scope (compEnvC scope cl C X.env) fp) W0 G elt f)
    (hsw : swapsWith (.ListComp elt [⟨tg, iter, ifs, 0⟩] scope pos) (some (.Name y py)) spos.line X.env = pure true)
    (hp : i ∉ G.ps := by first | decide | exact of_decide_eq_true rfl) (hy : X.N[i]? = some y := by rfl) (hyl : X.env.scope.names.lookup y = some .local := by rfl)
    (hj : ∀ j ∈ js, j ∈ own.map (·.2) := by decide) (hc : X.calm = true := by rfl) (hs : ∀ x, foldedSetIterable iter X.env x = pure x := by intro _; rfl) : SD X W G (.Assign [.Name y py] (.ListComp elt [⟨tg, iter, ifs, 0⟩] scope pos) spos) (sSetO i (oLc (own.map (·.2)) fi g t f)) := by
  obtain ⟨wi, pi, ri⟩ := hi.ex
  refine ⟨_, ps_setLc (te := tE X.K G W0 f) (tt := tT X.K G W0 t) (g := gE X.K G js g) hc hN hy hyl hsw pi ok (fun s H C cl fp => (hg s H C cl fp).pg) (fun s H C cl fp => (ht s H C cl fp).pts) (fun s H C cl fp => (he s H C cl fp).pe) hs, fun b O H σ ds E I h => ?_⟩
  refine lc_run hj ri b O H σ ds _ I (SPost.evalO h fun c ds' p H' O' w1 I' w2 w h' => h' _ H' O' (I'.setOwn hp w) Ext.refl)
def sSetL (i : Nat) (f : DS → R (Ct × DS)) (ds : DS) : Out := toOut (f ds) fun c ds' => match dOf c with
  | some d => .nx (ds'.set i (.val d))
  | none => .stuck
theorem sd_setLcV (i : Nat) {y : Str} {py : Pos} {elt tg iter : Expr} {ifs : List Expr} {scope : Scope} {own : List (Str × Nat)} {pos spos : Pos} {fi : DS → R (List D × DS)} {js : List Nat} {g : TgF} {t : DS → R (Bool × DS)} {f : DS → R (D × DS)} (hN : X.N.Nodup) (hi : ID X W G tg iter fi) (ok : BlkOk X.N X.env.scope scope own)
    (hg : ∀ (s : Shared) (H : Hp) (C : Addr) (cl : List (Str × Addr)) (fp : List Addr), GD (X.blk s H scope (compEnvC scope cl C X.env) fp) G tg js g)
    (ht : ∀ (s : Shared) (H : Hp) (C : Addr) (cl : List (Str × Addr)) (fp : List Addr), PTD (X.blk s H scope (compEnvC scope cl C X.env) fp) W0 G ifs t)
    (he : ∀ (s : Shared) (H : Hp) (C : Addr) (cl : List (Str × Addr)) (fp : List Addr), ED (X.blk s H scope (compEnvC scope cl C X.env) fp) W0 G elt f)
    (hsw : swapsWith (.ListComp elt [⟨tg, iter, ifs, 0⟩] scope pos) (some (.Name y py)) spos.line X.env = pure true)
    (hp : i ∉ G.ps := by first | decide | exact of_decide_eq_true rfl) (hy : X.N[i]? = some y := by rfl) (hyl : X.env.scope.names.lookup y = some .local := by rfl)
    (hj : ∀ j ∈ js, j ∈ own.map (·.2) := by decide) (hc : X.calm = true := by rfl) (hs : ∀ x, foldedSetIterable iter X.env x = pure x := by intro _; rfl) : SD X W G (.Assign [.Name y py] (.ListComp elt [⟨tg, iter, ifs, 0⟩] scope pos) spos) (sSetL i (oLc (own.map (·.2)) fi g t f)) := by
  obtain ⟨wi, pi, ri⟩ := hi.ex
  refine ⟨_, ps_setLc (te := tE X.K G W0 f) (tt := tT X.K G W0 t) (g := gE X.K G js g) hc hN hy hyl hsw pi ok (fun s H C cl fp => (hg s H C cl fp).pg) (fun s H C cl fp => (ht s H C cl fp).pts) (fun s H C cl fp => (he s H C cl fp).pe) hs, fun b O H σ ds E I h => ?_⟩
  refine lc_run hj ri b O H σ ds _ I (SPost.evalO h fun c ds' p H' O' w1 I' w2 w h' => ?_)
  cases ed : dOf c with
  | none => rw [ed] at h'; exact h'.elim
  | some d =>
    rw [ed] at h'
    obtain ⟨o, hpo, hr⟩ := w.at_
    have r : Rep X.K (hide H' (subO O' p)) d (.ref p) := by
      refine rep_dOf (cm := G.cm) ed (hide_mk hpo ?_) (CtR.mono (SameR.hide_weak fun a h => (of_subO h).1) hr)
      cases q : subO O' p p with
      | false => rfl
      | true => exact absurd rfl (of_subO q).2
    exact h' _ H' (subO O' p) ((I'.drop w).setVal hp r) Ext.drop
end
end DL

/-! DH: operators, comparisons, subscripts, built-ins -/
namespace DL
open PySem L2

/-! ### == of data without dicts -/
mutual
def pyOf : D → PyData
  | .non => .none
  | .bl b => .bool b
  | .int i => .int i
  | .str s => .str (sv s)
  | .tup l => .tuple (pyOfs l)
  | .ktup l => .tuple (pyOfs l)
  | .lst l => .list (pyOfs l)
  | .scr ns => .list (ns.map .int)
  | .dic _ _ => .none
  | .op _ => .none
def pyOfs : List D → List PyData
  | [] => []
  | d :: r => pyOf d :: pyOfs r
end
def plainD : Nat → D → Bool
  | _, .non => true
  | _, .bl _ => true
  | _, .int _ => true
  | _, .str _ => true
  | n + 1, .tup l => l.all (plainD n)
  | n + 1, .ktup l => l.all (plainD n)
  | n + 1, .lst l => l.all (plainD n)
  | n + 1, .scr _ => true
  | _, _ => false
mutual
def eqB : D → D → Bool
  | .non, .non => true
  | .bl a, .bl b => a == b
  | .bl a, .int j => (if a then 1 else 0) == j
  | .int i, .bl b => i == (if b then 1 else 0)
  | .int a, .int b => a == b
  | .str a, .str b => decide (a = b)
  | .tup a, .tup b => eqL a b
  | .tup a, .ktup b => eqL a b
  | .ktup a, .tup b => eqL a b
  | .ktup a, .ktup b => eqL a b
  | .lst a, .lst b => eqL a b
  | .lst a, .scr ns => eqL a (ns.map .int)
  | .scr ns, .lst b => eqS ns b
  | .scr a, .scr b => decide (a = b)
  | _, _ => false
def eqL : List D → List D → Bool
  | [], [] => true
  | x :: r, y :: s => eqB x y && eqL r s
  | _, _ => false
def eqS : List Int → List D → Bool
  | [], [] => true
  | x :: r, y :: s => (match y with | .int j => x == j | .bl b => x == (if b then 1 else 0) | _ => false) && eqS r s
  | _, _ => false
end
section
variable {K : PySem.W.Frag} {H : Hp}
theorem strOk_sv {s : List Nat} (h : okS s = true) : PySem.PyData.strOk (sv s) = true := by
  unfold PySem.PyData.strOk
  show (s.toArray).all (fun c => decide (c < 0x110000)) = true
  rw [List.all_toArray, List.all_eq_true]
  intro c hc
  have := okS_asc h c hc
  simp only [decide_eq_true_eq]
  omega
mutual
theorem Rep.dp : ∀ (n : Nat) (d : D) (v : V), Rep K H d v → plainD n d = true → Dp K H v (pyOf d) ∧ (pyOf d).canLay0 = true ∧ (pyOf d).depth ≤ n
  | n, .non, v, h, _ => by cases rep_non.mp h; exact ⟨.non, rfl, by simp [pyOf, PyData.depth]⟩
  | n, .bl b, v, h, _ => by cases rep_bl.mp h; exact ⟨.bl b, rfl, by simp [pyOf, PyData.depth]⟩
  | n, .int b, v, h, _ => by cases rep_int.mp h; exact ⟨.int b, rfl, by simp [pyOf, PyData.depth]⟩
  | n, .str s, v, h, _ => by
    unfold Rep at h
    obtain ⟨rfl, h⟩ := h
    exact ⟨.str _, by simpa [pyOf, PyData.canLay0] using strOk_sv h, by simp [pyOf, PyData.depth]⟩
  | n + 1, .tup l, v, h, hp => by
    unfold Rep at h
    obtain ⟨a, xs, rfl, h1, h2, _⟩ := h
    obtain ⟨g1, g2, g3⟩ := RepL.dp n l xs h2 (by simpa [plainD] using hp)
    exact ⟨.tup (SqT.of h1) g1, by simpa [pyOf, PyData.canLay0] using g2, by simp only [pyOf, PyData.depth]; omega⟩
  | n + 1, .ktup l, v, h, hp => by
    unfold Rep at h
    obtain ⟨a, xs, rfl, h1, h2, _⟩ := h
    obtain ⟨g1, g2, g3⟩ := RepL.dp n l xs h2 (by simpa [plainD] using hp)
    exact ⟨.tup h1 g1, by simpa [pyOf, PyData.canLay0] using g2, by simp only [pyOf, PyData.depth]; omega⟩
  | n + 1, .lst l, v, h, hp => by
    unfold Rep at h
    obtain ⟨a, xs, rfl, h1, h2, _⟩ := h
    obtain ⟨g1, g2, g3⟩ := RepL.dp n l xs h2 (by simpa [plainD] using hp)
    exact ⟨.lst (SqL.of h1) g1, by simpa [pyOf, PyData.canLay0] using g2, by simp only [pyOf, PyData.depth]; omega⟩
  | n + 1, .scr ns, v, h, hp => by
    unfold Rep at h
    obtain ⟨a, rfl, h1, _⟩ := h
    have key : ∀ (ns : List Int), DpAll K H (ns.map V.int) (ns.map PyData.int) ∧ PyData.canLayAll0 (ns.map PyData.int) = true ∧ PyData.depthAll (ns.map PyData.int) ≤ 0 := by
      intro ns
      induction ns with
      | nil => exact ⟨.nil, rfl, by simp [PyData.depthAll]⟩
      | cons x r ih => exact ⟨.cons (.int x) ih.1, by simp [PyData.canLayAll0, PyData.canLay0, ih.2.1], by simp only [List.map_cons, PyData.depthAll, PyData.depth]; have := ih.2.2; omega⟩
    obtain ⟨k1, k2, k3⟩ := key ns
    exact ⟨.lst h1 k1, by simpa [pyOf, PyData.canLay0] using k2, by simp only [pyOf, PyData.depth]; omega⟩
  | 0, .tup l, v, h, hp => by simp [plainD] at hp
  | 0, .ktup l, v, h, hp => by simp [plainD] at hp
  | 0, .lst l, v, h, hp => by simp [plainD] at hp
  | 0, .scr l, v, h, hp => by simp [plainD] at hp
  | 0, .dic _ _, v, h, hp => by simp [plainD] at hp
  | 0, .op _, v, h, hp => by simp [plainD] at hp
  | n + 1, .dic _ _, v, h, hp => by simp [plainD] at hp
  | n + 1, .op _, v, h, hp => by simp [plainD] at hp
theorem RepL.dp : ∀ (n : Nat) (l : List D) (xs : List V), RepL K H l xs → l.all (plainD n) = true → DpAll K H xs (pyOfs l) ∧ PyData.canLayAll0 (pyOfs l) = true ∧ PyData.depthAll (pyOfs l) ≤ n
  | n, [], xs, h, _ => by unfold RepL at h; subst h; exact ⟨.nil, rfl, by simp [pyOfs, PyData.depthAll]⟩
  | n, d :: r, xs, h, hp => by
    unfold RepL at h
    obtain ⟨x, s, rfl, h1, h2⟩ := h
    simp only [List.all_cons, Bool.and_eq_true] at hp
    obtain ⟨g1, g2, g3⟩ := Rep.dp n d x h1 hp.1
    obtain ⟨k1, k2, k3⟩ := RepL.dp n r s h2 hp.2
    exact ⟨.cons g1 k1, by simp [pyOfs, PyData.canLayAll0, g2, k2], by simp only [pyOfs, PyData.depthAll]; omega⟩
end
theorem eqS_eqv : ∀ (ns : List Int) (l : List D), PyData.eqvAll (ns.map .int) (pyOfs l) = eqS ns l
  | [], [] => rfl
  | [], _ :: _ => by simp [pyOfs, PyData.eqvAll, eqS]
  | _ :: _, [] => by simp [pyOfs, PyData.eqvAll, eqS]
  | x :: r, y :: s => by
    simp only [List.map_cons, pyOfs, PyData.eqvAll, eqS, eqS_eqv r s]
    cases y <;> simp [pyOf, PyData.eqv]
theorem eqSS : ∀ (a b : List Int), PyData.eqvAll (a.map PyData.int) (b.map PyData.int) = decide (a = b)
  | [], [] => rfl
  | [], _ :: _ => by simp [PyData.eqvAll]
  | _ :: _, [] => by simp [PyData.eqvAll]
  | x :: a, y :: b => by
    simp only [List.map_cons, PyData.eqvAll, PyData.eqv, eqSS a b]
    by_cases h : x = y <;> simp [h]
theorem sv_beq (a b : List Nat) : (sv a == sv b) = decide (a = b) := by
  by_cases h : a = b
  · subst h; simp
  · have : ¬ sv a = sv b := fun z => h (sv_inj z)
    rw [decide_eq_false h]
    exact beq_eq_false_iff_ne.mpr this
mutual
theorem eqv_eqB : ∀ (n m : Nat) (a b : D), plainD n a = true → plainD m b = true → PyData.eqv (pyOf a) (pyOf b) = eqB a b
  | n, m, .non, b, _, hb => by cases b <;> first | (cases m <;> simp [plainD] at hb; done) | simp [pyOf, PyData.eqv, eqB]
  | n, m, .bl x, b, _, hb => by cases b <;> first | (cases m <;> simp [plainD] at hb; done) | simp [pyOf, PyData.eqv, eqB]
  | n, m, .int x, b, _, hb => by cases b <;> first | (cases m <;> simp [plainD] at hb; done) | simp [pyOf, PyData.eqv, eqB]
  | n, m, .str x, b, _, hb => by cases b <;> first | (cases m <;> simp [plainD] at hb; done) | (simp only [pyOf, PyData.eqv, eqB]; exact sv_beq _ _) | simp [pyOf, PyData.eqv, eqB]
  | n + 1, m, .tup x, b, ha, hb => by
    cases b <;> first
      | (cases m <;> simp [plainD] at hb; done)
      | (cases m with
         | zero => simp [plainD] at hb
         | succ m => simp only [pyOf, PyData.eqv, eqB]; exact eqv_eqL n m x _ (by simpa [plainD] using ha) (by simpa [plainD] using hb))
      | simp [pyOf, PyData.eqv, eqB]
  | n + 1, m, .ktup x, b, ha, hb => by
    cases b <;> first
      | (cases m <;> simp [plainD] at hb; done)
      | (cases m with
         | zero => simp [plainD] at hb
         | succ m => simp only [pyOf, PyData.eqv, eqB]; exact eqv_eqL n m x _ (by simpa [plainD] using ha) (by simpa [plainD] using hb))
      | simp [pyOf, PyData.eqv, eqB]
  | n + 1, m, .lst x, b, ha, hb => by
    cases b with
    | lst y => cases m with
      | zero => simp [plainD] at hb
      | succ m => simp only [pyOf, PyData.eqv, eqB]; exact eqv_eqL n m x _ (by simpa [plainD] using ha) (by simpa [plainD] using hb)
    | scr ns => cases m with
      | zero => simp [plainD] at hb
      | succ m =>
        simp only [pyOf, PyData.eqv, eqB]
        have h1 : pyOfs (ns.map D.int) = ns.map PyData.int := by
          induction ns with
          | nil => rfl
          | cons y r ih => simp [pyOfs, pyOf]; exact ih (by simp [plainD])
        rw [← h1]
        exact eqv_eqL n m x _ (by simpa [plainD] using ha) (by simp [plainD])
    | dic _ _ => cases m <;> simp [plainD] at hb
    | op _ => cases m <;> simp [plainD] at hb
    | _ => simp [pyOf, PyData.eqv, eqB]
  | n + 1, m, .scr ns, b, ha, hb => by
    cases b with
    | lst y => simp only [pyOf, PyData.eqv, eqB]; exact eqS_eqv ns y
    | scr ms => simp only [pyOf, PyData.eqv, eqB]; exact eqSS ns ms
    | dic _ _ => cases m <;> simp [plainD] at hb
    | op _ => cases m <;> simp [plainD] at hb
    | _ => simp [pyOf, PyData.eqv, eqB]
  | 0, _, .tup _, _, ha, _ => by simp [plainD] at ha
  | 0, _, .ktup _, _, ha, _ => by simp [plainD] at ha
  | 0, _, .lst _, _, ha, _ => by simp [plainD] at ha
  | 0, _, .scr _, _, ha, _ => by simp [plainD] at ha
  | 0, _, .dic _ _, _, ha, _ => by simp [plainD] at ha
  | 0, _, .op _, _, ha, _ => by simp [plainD] at ha
  | n + 1, _, .dic _ _, _, ha, _ => by simp [plainD] at ha
  | n + 1, _, .op _, _, ha, _ => by simp [plainD] at ha
theorem eqv_eqL : ∀ (n m : Nat) (a b : List D), a.all (plainD n) = true → b.all (plainD m) = true → PyData.eqvAll (pyOfs a) (pyOfs b) = eqL a b
  | n, m, [], b, _, _ => by cases b <;> simp [pyOfs, PyData.eqvAll, eqL]
  | n, m, x :: a, [], _, _ => by simp [pyOfs, PyData.eqvAll, eqL]
  | n, m, x :: a, y :: b, ha, hb => by
    simp only [List.all_cons, Bool.and_eq_true] at ha hb
    simp only [pyOfs, PyData.eqvAll, eqL, eqv_eqB n m x y ha.1 hb.1, eqv_eqL n m a b ha.2 hb.2]
end
end

/-! ### the operators -/
section
variable {X : Cx}
theorem rep_bool {K : PySem.W.Frag} {H : Hp} {b : Bool} : Rep K H (.bl b) (.bl b) := rep_bl.mpr rfl
theorem rep_i {K : PySem.W.Frag} {H : Hp} {b : Int} : Rep K H (.int b) (.int b) := rep_int.mpr rfl
def dEq (a b : D) : Option D := if plainD 60 a = true ∧ plainD 60 b = true then some (.bl (eqB a b)) else none
def dNe (a b : D) : Option D := if plainD 60 a = true ∧ plainD 60 b = true then some (.bl (!eqB a b)) else none
theorem shaped_of {d : PyData} {n : Nat} (h : d.canLay0 = true) (h2 : d.depth ≤ n) (hn : n ≤ 64) : SeqAt.shaped d = true := by
  unfold SeqAt.shaped
  rw [h, decide_eq_true (Nat.le_trans h2 hn)]
  rfl
theorem od_eq (hu : X.A.units + 64 < cLine) : OpD X (compareOp .Eq) dEq := by
  refine ⟨rEqD X.K, op_eqD hu, fun O H x y d1 d2 d Q hO r1 r2 e k => ?_⟩
  unfold dEq at e
  split at e
  · rename_i hp
    cases e
    obtain ⟨a1, a2, a3⟩ := Rep.dp 60 d1 x (Rep.mono SameR.hide_all _ _ r1) hp.1
    obtain ⟨b1, b2, b3⟩ := Rep.dp 60 d2 y (Rep.mono SameR.hide_all _ _ r2) hp.2
    refine ⟨_, _, a1, b1, shaped_of a2 a3 (by decide), shaped_of b2 b3 (by decide), ?_⟩
    rw [eqv_eqB 60 60 d1 d2 hp.1 hp.2]
    exact k _ H (Same.refl _) rep_bool
  · cases e
theorem od_ne (hu : X.A.units + 64 < cLine) : OpD X (compareOp .NotEq) dNe := by
  refine ⟨rNeD X.K, op_neD hu, fun O H x y d1 d2 d Q hO r1 r2 e k => ?_⟩
  unfold dNe at e
  split at e
  · rename_i hp
    cases e
    obtain ⟨a1, a2, a3⟩ := Rep.dp 60 d1 x (Rep.mono SameR.hide_all _ _ r1) hp.1
    obtain ⟨b1, b2, b3⟩ := Rep.dp 60 d2 y (Rep.mono SameR.hide_all _ _ r2) hp.2
    refine ⟨_, _, a1, b1, shaped_of a2 a3 (by decide), shaped_of b2 b3 (by decide), ?_⟩
    rw [eqv_eqB 60 60 d1 d2 hp.1 hp.2]
    exact k _ H (Same.refl _) rep_bool
  · cases e
theorem od_int {op : Value → Value → Sem Value} {C : Int → Int → Prop} {f : Int → Int → Int} {g : D → D → Option D} (h : OpR X op (rI C fun i j => .int (f i j))) (hg : ∀ a b d, g a b = some d → ∃ i j, a = .int i ∧ b = .int j ∧ C i j ∧ d = .int (f i j)) : OpD X op g := by
  refine ⟨_, h, fun O H x y d1 d2 d Q hO r1 r2 e k => ?_⟩
  obtain ⟨i, j, rfl, rfl, hc, rfl⟩ := hg _ _ _ e
  exact ⟨i, j, rep_int.mp r1, rep_int.mp r2, hc, k _ H (Same.refl _) rep_i⟩
theorem od_int0 {op : Value → Value → Sem Value} {f : Int → Int → Int} {g : D → D → Option D} (h : OpR X op (rI0 fun i j => .int (f i j))) (hg : ∀ a b d, g a b = some d → ∃ i j, a = .int i ∧ b = .int j ∧ d = .int (f i j)) : OpD X op g := by
  refine ⟨_, h, fun O H x y d1 d2 d Q hO r1 r2 e k => ?_⟩
  obtain ⟨i, j, rfl, rfl, rfl⟩ := hg _ _ _ e
  exact ⟨i, j, rep_int.mp r1, rep_int.mp r2, k _ H (Same.refl _) rep_i⟩
def dSub (a b : D) : Option D := match a, b with
  | .int i, .int j => some (.int (i - j))
  | _, _ => none
theorem int2_of {g : Int → Int → Option D} {a b d : D} (e : (match a, b with | .int i, .int j => g i j | _, _ => none) = some d) : ∃ i j, a = .int i ∧ b = .int j ∧ g i j = some d := by
  cases a <;> cases b <;> first | (exact ⟨_, _, rfl, rfl, e⟩) | cases e
theorem od_sub : OpD X (binaryOp .Sub) dSub := od_int0 op_sub fun a b d e => by
  obtain ⟨i, j, rfl, rfl, e9⟩ := int2_of (g := fun i j => some (.int (i - j))) e
  exact ⟨i, j, rfl, rfl, by cases e9; rfl⟩
def okMul (i j : Int) : Bool := decide (-(2 ^ 64) < i ∧ i < 2 ^ 64) || (decide (i.natAbs < 2 ^ 4096) && decide (j.natAbs < 2 ^ 4096))
def dMul (a b : D) : Option D := match a, b with
  | .int i, .int j => if okMul i j = true then some (.int (i * j)) else if okMul j i = true then some (.int (i * j)) else none
  | _, _ => none
theorem mul_ok {i j : Int} (h : okMul i j = true) : IntMulOk i j := by
  unfold okMul at h
  simp only [Bool.or_eq_true, Bool.and_eq_true, decide_eq_true_eq] at h
  rcases h with h | ⟨h1, h2⟩
  · exact CMul.ok (.inl h)
  · exact CMulW.ok (wide_mul h1 h2 (by decide) (by decide) (by decide))
theorem mul_ok' {i j : Int} (h : okMul j i = true) : IntMulOk i j := by
  unfold okMul at h
  simp only [Bool.or_eq_true, Bool.and_eq_true, decide_eq_true_eq] at h
  rcases h with h | ⟨h1, h2⟩
  · exact CMul.ok (.inr h)
  · exact CMulW.ok (wide_mul h2 h1 (by decide) (by decide) (by decide))
theorem od_mul : OpD X (binaryOp .Mult) dMul := od_int (C := fun i j => IntMulOk i j) (f := fun i j => i * j) (opI fun _ _ _ _ _ _ _ hc q => PyProof.Rows.mul_int q hc) fun a b d e => by
  obtain ⟨i, j, rfl, rfl, e9⟩ := int2_of (g := fun i j => if okMul i j = true then some (.int (i * j)) else if okMul j i = true then some (.int (i * j)) else none) e
  split at e9
  · rename_i h; exact ⟨i, j, rfl, rfl, mul_ok h, by cases e9; rfl⟩
  · split at e9
    · rename_i h; exact ⟨i, j, rfl, rfl, mul_ok' h, by cases e9; rfl⟩
    · cases e9
def dFdiv (a b : D) : Option D := match a, b with
  | .int i, .int j => if 0 < j ∧ j < 1073741824 then some (.int (i / j)) else none
  | _, _ => none
theorem od_fdiv : OpD X (binaryOp .FloorDiv) dFdiv := od_int op_fdiv fun a b d e => by
  obtain ⟨i, j, rfl, rfl, e9⟩ := int2_of (g := fun i j => if 0 < j ∧ j < 1073741824 then some (.int (i / j)) else none) e
  split at e9
  · rename_i h; exact ⟨i, j, rfl, rfl, h, by cases e9; rfl⟩
  · cases e9
def dMod (a b : D) : Option D := match a, b with
  | .int i, .int j => if 0 < j then some (.int (i % j)) else none
  | _, _ => none
theorem od_mod : OpD X (binaryOp .Mod) dMod := od_int op_mod fun a b d e => by
  obtain ⟨i, j, rfl, rfl, e9⟩ := int2_of (g := fun i j => if 0 < j then some (.int (i % j)) else none) e
  split at e9
  · rename_i h; exact ⟨i, j, rfl, rfl, h, by cases e9; rfl⟩
  · cases e9
def dPow (a b : D) : Option D := match a, b with
  | .int i, .int j => if 0 ≤ j ∧ j ≤ 1000000 ∧ i.natAbs < 2 ^ 64 then some (.int (i ^ j.toNat)) else none
  | _, _ => none
theorem od_pow : OpD X (binaryOp .Pow) dPow := od_int op_pow fun a b d e => by
  obtain ⟨i, j, rfl, rfl, e9⟩ := int2_of (g := fun i j => if 0 ≤ j ∧ j ≤ 1000000 ∧ i.natAbs < 2 ^ 64 then some (.int (i ^ j.toNat)) else none) e
  split at e9
  · rename_i h; exact ⟨i, j, rfl, rfl, h, by cases e9; rfl⟩
  · cases e9
/-! +: numbers, texts, lists, tuples -/
def dAdd (a b : D) : Option D := match a, b with
  | .int i, .int j => some (.int (i + j))
  | .str x, .str y => if x.length + y.length ≤ Ln then some (.str (x ++ y)) else none
  | .lst x, .lst y => if x.length + y.length ≤ Ln then some (.lst (x ++ y)) else none
  | .tup x, .tup y => if x.length + y.length ≤ Ln then some (.tup (x ++ y)) else none
  | _, _ => none
theorem sv_app (a b : List Nat) : sv a ++ sv b = sv (a ++ b) := by
  show (⟨a.toArray ++ b.toArray⟩ : Str) = ⟨(a ++ b).toArray⟩
  simp
theorem okS_app {a b : List Nat} (h1 : okS a = true) (h2 : okS b = true) (h : a.length + b.length ≤ Ln) : okS (a ++ b) = true := okS_mk (by rw [List.length_append]; exact h) fun c hc => by
  rcases List.mem_append.mp hc with q | q
  · exact okS_asc h1 c q
  · exact okS_asc h2 c q
theorem rep_newL {K : PySem.W.Frag} {H : Hp} {O : Addr → Bool} {p : Addr} {ds : List D} {xs : List V} (np : H p = none) (hO : O p = false) (r : RepL K (hide H O) ds xs) (l : ds.length ≤ Ln) : Rep K (hide (upd H p (.lst xs)) O) (.lst ds) (.ref p) := by
  unfold Rep
  exact ⟨p, xs, rfl, hide_mk upd_same hO, RepL.mono (SameR.of (hide_same (same_upd np) O)) _ _ r, l⟩
theorem rep_newT {K : PySem.W.Frag} {H : Hp} {O : Addr → Bool} {p : Addr} {ds : List D} {xs : List V} (np : H p = none) (hO : O p = false) (r : RepL K (hide H O) ds xs) (l : ds.length ≤ Ln) : Rep K (hide (upd H p (.tup xs)) O) (.tup ds) (.ref p) := by
  unfold Rep
  exact ⟨p, xs, rfl, hide_mk upd_same hO, RepL.mono (SameR.of (hide_same (same_upd np) O)) _ _ r, l⟩
theorem od_add : OpD X (binaryOp .Add) dAdd := by
  refine ⟨_, op_add.or (op_add_str.or (op_cat.or op_catA)), fun O H x y d1 d2 d Q hO r1 r2 e k => ?_⟩
  unfold dAdd at e
  split at e
  · rename_i i j
    cases e
    exact .inl ⟨i, j, rep_int.mp r1, rep_int.mp r2, k _ H (Same.refl _) rep_i⟩
  · rename_i a c
    split at e
    · rename_i hl
      cases e
      unfold Rep at r1 r2
      obtain ⟨rfl, s1⟩ := r1
      obtain ⟨rfl, s2⟩ := r2
      refine .inr (.inl ⟨_, _, rfl, rfl, by rw [sv_length, sv_length, Ln_eq]; exact hl, k _ H (Same.refl _) ?_⟩)
      exact rep_str (sv_app a c) (okS_app s1 s2 hl)
    · cases e
  · rename_i a c
    split at e
    · rename_i hl
      cases e
      unfold Rep at r1 r2
      obtain ⟨p1, xs, rfl, h1, q1, _⟩ := r1
      obtain ⟨p2, ys, rfl, h2, q2, _⟩ := r2
      refine .inr (.inr (.inl ⟨p1, p2, xs, ys, rfl, rfl, (hide_of h1).1, (hide_of h2).1, by rw [q1.length, q2.length, Ln_eq]; exact hl, fun p np => k _ _ (same_upd np) ?_⟩))
      exact rep_newL np (hO p np) (q1.append q2) (by rw [List.length_append]; exact hl)
    · cases e
  · rename_i a c
    split at e
    · rename_i hl
      cases e
      have r1' := r1
      have r2' := r2
      unfold Rep at r1 r2
      obtain ⟨p1, xs, rfl, h1, q1, _⟩ := r1
      obtain ⟨p2, ys, rfl, h2, q2, _⟩ := r2
      refine .inr (.inr (.inr ⟨p1, p2, xs, ys, rfl, rfl, SqT.of (hide_of h1).1, SqT.of (hide_of h2).1, by rw [q1.length, q2.length, Ln_eq]; exact hl, fun z => ?_, fun _ z => ?_, fun _ _ p np => k _ _ (same_upd np) ?_⟩))
      · subst z
        have : a = [] := by have := q1.length; cases a with | nil => rfl | cons _ _ => simp at this
        subst this
        exact k _ H (Same.refl _) r2'
      · subst z
        have : c = [] := by have := q2.length; cases c with | nil => rfl | cons _ _ => simp at this
        subst this
        rw [List.append_nil] at k
        exact k _ H (Same.refl _) r1'
      · exact rep_newT np (hO p np) (q1.append q2) (by rw [List.length_append]; exact hl)
    · cases e
  · cases e
/-! order: numbers, texts -/
def ltL : List Nat → List Nat → Bool
  | [], [] => false
  | [], _ :: _ => true
  | _ :: _, [] => false
  | x :: a, y :: b => if x < y then true else if y < x then false else ltL a b
theorem ltL_iff : ∀ (a b : List Nat), decide (a < b) = ltL a b
  | [], [] => by simp [ltL]
  | [], _ :: _ => by simp [ltL]
  | _ :: _, [] => by simp [ltL]
  | x :: a, y :: b => by
    have ih := ltL_iff a b
    unfold ltL
    by_cases h : x < y
    · rw [if_pos h]
      exact decide_eq_true (by rw [List.cons_lt_cons_iff]; exact .inl h)
    · rw [if_neg h]
      by_cases h2 : y < x
      · rw [if_pos h2]
        exact decide_eq_false (by rw [List.cons_lt_cons_iff]; omega)
      · rw [if_neg h2, ← ih]
        have e : x = y := by omega
        subst e
        simp
def dLt (a b : D) : Option D := match a, b with
  | .int i, .int j => some (.bl (decide (i < j)))
  | .str x, .str y => some (.bl (ltL x y))
  | _, _ => none
def dLe (a b : D) : Option D := match a, b with
  | .int i, .int j => some (.bl (decide (i ≤ j)))
  | .str x, .str y => some (.bl (!ltL y x))
  | _, _ => none
def dGt (a b : D) : Option D := match a, b with
  | .int i, .int j => some (.bl (decide (j < i)))
  | .str x, .str y => some (.bl (ltL y x))
  | _, _ => none
def dGe (a b : D) : Option D := match a, b with
  | .int i, .int j => some (.bl (decide (j ≤ i)))
  | .str x, .str y => some (.bl (!ltL x y))
  | _, _ => none
theorem od_ord {op : Value → Value → Sem Value} {p : Int → Int → Bool} {q : List Nat → List Nat → Bool} {q' : Str → Str → Bool} {g : D → D → Option D} (h1 : OpR X op (rI0 fun i j => .bl (p i j))) (h2 : OpR X op (fun x y H Q => ∃ i j, x = .str i ∧ y = .str j ∧ Q (.bl (q' i j)) H)) (hq : ∀ a b, q' (sv a) (sv b) = q a b)
    (hg : ∀ a b, g a b = match a, b with | .int i, .int j => some (.bl (p i j)) | .str x, .str y => some (.bl (q x y)) | _, _ => none) : OpD X op g := by
  refine ⟨_, h1.or h2, fun O H x y d1 d2 d Q hO r1 r2 e k => ?_⟩
  rw [hg] at e
  split at e
  · rename_i i j
    cases e
    exact .inl ⟨i, j, rep_int.mp r1, rep_int.mp r2, k _ H (Same.refl _) rep_bool⟩
  · rename_i a c
    cases e
    unfold Rep at r1 r2
    obtain ⟨rfl, _⟩ := r1
    obtain ⟨rfl, _⟩ := r2
    exact .inr ⟨_, _, rfl, rfl, by rw [hq]; exact k _ H (Same.refl _) rep_bool⟩
  · cases e
theorem od_lt : OpD X (compareOp .Lt) dLt := od_ord op_lt op_lt_str (fun a b => by simp only [sv_list]; exact ltL_iff a b) fun a b => rfl
theorem od_le : OpD X (compareOp .LtE) dLe := od_ord op_le op_le_str (q := fun a b => !ltL b a) (fun a b => by simp only [sv_list]; rw [ltL_iff b a]) fun a b => rfl
theorem od_gt : OpD X (compareOp .Gt) dGt := od_ord op_gt op_gt_str (q := fun a b => ltL b a) (fun a b => by simp only [sv_list]; exact ltL_iff b a) fun a b => rfl
theorem od_ge : OpD X (compareOp .GtE) dGe := od_ord op_ge op_ge_str (q := fun a b => !ltL a b) (fun a b => by simp only [sv_list]; rw [ltL_iff a b]) fun a b => rfl
/-! is None, is True -/
def isNonD : D → Bool
  | .non => true
  | _ => false
def dIs (a b : D) : Option D := match b, a with
  | .non, .op _ => none
  | .non, a => some (.bl (isNonD a))
  | .bl y, .bl x => some (.bl (decide (x = y)))
  | _, _ => none
def dIsNot (a b : D) : Option D := match b, a with
  | .non, .op _ => none
  | .non, a => some (.bl (!isNonD a))
  | .bl y, .bl x => some (.bl (!decide (x = y)))
  | _, _ => none
theorem rep_isNon {K : PySem.W.Frag} {H : Hp} {d : D} {v : V} (h : Rep K H d v) (hn : ∀ w, d ≠ .op w) : decide (v = .non) = isNonD d := by
  cases d with
  | non => cases rep_non.mp h; rfl
  | op w => exact absurd rfl (hn w)
  | bl b => cases rep_bl.mp h; rfl
  | int b => cases rep_int.mp h; rfl
  | str s => unfold Rep at h; obtain ⟨rfl, _⟩ := h; rfl
  | tup s => unfold Rep at h; obtain ⟨_, _, rfl, _⟩ := h; rfl
  | ktup s => unfold Rep at h; obtain ⟨_, _, rfl, _⟩ := h; rfl
  | lst s => unfold Rep at h; obtain ⟨_, _, rfl, _⟩ := h; rfl
  | scr s => unfold Rep at h; obtain ⟨_, rfl, _⟩ := h; rfl
  | dic t s => unfold Rep at h; obtain ⟨_, rfl, _⟩ := h; rfl
theorem od_is : OpD X (compareOp .Is) dIs := by
  refine ⟨_, op_isN.or op_is_bl, fun O H x y d1 d2 d Q hO r1 r2 e k => ?_⟩
  unfold dIs at e
  split at e
  · cases e
  · rename_i hn
    cases e
    refine .inl ⟨rep_non.mp r2, ?_⟩
    rw [rep_isNon r1 fun w z => hn w z]
    exact k _ H (Same.refl _) rep_bool
  · cases e
    exact .inr ⟨_, _, rep_bl.mp r1, rep_bl.mp r2, k _ H (Same.refl _) rep_bool⟩
  · cases e
theorem od_isnot : OpD X (compareOp .IsNot) dIsNot := by
  refine ⟨_, op_notN.or op_isnot_bl, fun O H x y d1 d2 d Q hO r1 r2 e k => ?_⟩
  unfold dIsNot at e
  split at e
  · cases e
  · rename_i hn
    cases e
    refine .inl ⟨rep_non.mp r2, ?_⟩
    rw [rep_isNon r1 fun w z => hn w z]
    exact k _ H (Same.refl _) rep_bool
  · cases e
    exact .inr ⟨_, _, rep_bl.mp r1, rep_bl.mp r2, k _ H (Same.refl _) rep_bool⟩
  · cases e

/-! in: a sign in a text; a flat thing in a tuple or list; a key in a dict -/
def flatD : D → Bool
  | .non => true
  | .bl _ => true
  | .int _ => true
  | .str _ => true
  | _ => false
def hasD (x : D) (l : List D) : Bool := l.any fun y => eqB y x
def dIn (a b : D) : Option D := match b with
  | .str s => match a with
    | .str [c] => some (.bl (s.contains c))
    | _ => none
  | .tup l => if flatD a = true ∧ l.all flatD = true then some (.bl (hasD a l)) else none
  | .lst l => if flatD a = true ∧ l.all flatD = true then some (.bl (hasD a l)) else none
  | .dic t kvs => if fitK t a = true then some (.bl (dget kvs a).isSome) else none
  | _ => none
def dNotIn (a b : D) : Option D := match b with
  | .str s => match a with
    | .str [c] => some (.bl (!s.contains c))
    | _ => none
  | .tup l => if flatD a = true ∧ l.all flatD = true then some (.bl (!hasD a l)) else none
  | .lst l => if flatD a = true ∧ l.all flatD = true then some (.bl (!hasD a l)) else none
  | .dic t kvs => if fitK t a = true then some (.bl (!(dget kvs a).isSome)) else none
  | _ => none
theorem Rep.flat {K : PySem.W.Frag} {H : Hp} {d : D} {v : V} (h : Rep K H d v) (f : flatD d = true) : flatV v = true := by
  cases d <;> simp only [flatD, Bool.false_eq_true] at f
  · cases rep_non.mp h; rfl
  · cases rep_bl.mp h; rfl
  · cases rep_int.mp h; rfl
  · unfold Rep at h; obtain ⟨rfl, _⟩ := h; rfl
theorem Rep.eqV {K : PySem.W.Frag} {H : Hp} {d e : D} {v u : V} (h : Rep K H d v) (f : flatD d = true) (g : Rep K H e u) (k : flatD e = true) : L2.eqV v u = eqB d e := by
  cases d <;> simp only [flatD, Bool.false_eq_true] at f <;> cases e <;> simp only [flatD, Bool.false_eq_true] at k <;>
    simp only [rep_non, rep_bl, rep_int, Rep] at h g <;> first
    | (subst h; subst g; rfl)
    | (obtain ⟨rfl, _⟩ := h; subst g; rfl)
    | (obtain ⟨rfl, _⟩ := g; subst h; rfl)
    | (obtain ⟨rfl, _⟩ := h; obtain ⟨rfl, _⟩ := g; simp only [L2.eqV, eqB]; exact sv_beq _ _)
theorem RepL.flats {K : PySem.W.Frag} {H : Hp} {a : D} {x : V} (h : Rep K H a x) (fa : flatD a = true) : ∀ {l : List D} {xs : List V}, RepL K H l xs → l.all flatD = true → xs.all flatV = true ∧ inV x xs = hasD a l
  | [], xs, r, _ => by unfold RepL at r; subst r; exact ⟨rfl, rfl⟩
  | d :: l, xs, r, f => by
    unfold RepL at r
    obtain ⟨y, s, rfl, h1, h2⟩ := r
    simp only [List.all_cons, Bool.and_eq_true] at f
    obtain ⟨g1, g2⟩ := RepL.flats h fa h2 f.2
    refine ⟨by simp only [List.all_cons, Bool.and_eq_true]; exact ⟨h1.flat f.1, g1⟩, ?_⟩
    unfold inV hasD at g2 ⊢
    simp only [List.any_cons, g2, Rep.eqV h1 f.1 h fa]
theorem contains_iff (c : Nat) (s : List Nat) : decide (c ∈ (sv s).cps.toList) = s.contains c := by
  rw [sv_list]
  by_cases h : c ∈ s
  · rw [decide_eq_true h, List.contains_iff_mem.mpr h]
  · rw [decide_eq_false h]
    cases e : s.contains c with
    | false => rfl
    | true => exact absurd (List.contains_iff_mem.mp e) h
def rDicIn (neg : Bool) : R2 := fun y x H Q => ∃ a o, x = .ref a ∧ DGet H a y o ∧ Q (.bl (if neg then !o.isSome else o.isSome)) H
theorem op_in_dic (hu : X.A.units + 1 < cLine) : OpR X (compareOp .In) (rDicIn false) := by
  intro pins s σ H y x u v Q I ry rx h
  obtain ⟨a, o, rfl, g, q⟩ := h
  cases (show v = Value.ref a from rx)
  exact d_in hu I g ry fun s' I' => ⟨.bl _, H, I', rfl, q⟩
theorem op_notin_dic (hu : X.A.units + 1 < cLine) : OpR X (compareOp .NotIn) (rDicIn true) := by
  intro pins s σ H y x u v Q I ry rx h
  obtain ⟨a, o, rfl, g, q⟩ := h
  cases (show v = Value.ref a from rx)
  exact d_notIn hu I g ry fun s' I' => ⟨.bl _, H, I', rfl, q⟩
theorem RepO.some_eq {K : PySem.W.Frag} {H : Hp} {o : Option D} {v : Option V} (h : RepO K H o v) : v.isSome = o.isSome := by
  cases o <;> cases v <;> first | rfl | exact h.elim
theorem od_in (hu : X.A.units + 1 < cLine) : OpD X (compareOp .In) dIn := by
  refine ⟨_, op_in_sign.or (op_in_seq.or (op_in_dic hu)), fun O H x y d1 d2 d Q hO r1 r2 e k => ?_⟩
  unfold dIn at e
  split at e
  · rename_i s
    split at e
    · rename_i c
      cases e
      unfold Rep at r1 r2
      obtain ⟨rfl, _⟩ := r1
      obtain ⟨rfl, _⟩ := r2
      refine .inl ⟨c, _, rfl, rfl, ?_⟩
      rw [contains_iff]
      exact k _ H (Same.refl _) rep_bool
    · cases e
  · rename_i l
    split at e
    · rename_i hf
      cases e
      unfold Rep at r2
      obtain ⟨p, xs, rfl, h1, h2, _⟩ := r2
      obtain ⟨g1, g2⟩ := RepL.flats r1 hf.1 h2 hf.2
      refine .inr (.inl ⟨p, xs, rfl, .inr (SqT.of (hide_of h1).1), r1.flat hf.1, g1, ?_⟩)
      show Q (.bl (inV x xs)) H
      rw [g2]
      exact k _ H (Same.refl _) rep_bool
    · cases e
  · rename_i l
    split at e
    · rename_i hf
      cases e
      unfold Rep at r2
      obtain ⟨p, xs, rfl, h1, h2, _⟩ := r2
      obtain ⟨g1, g2⟩ := RepL.flats r1 hf.1 h2 hf.2
      refine .inr (.inl ⟨p, xs, rfl, .inl (SqL.of (hide_of h1).1), r1.flat hf.1, g1, ?_⟩)
      show Q (.bl (inV x xs)) H
      rw [g2]
      exact k _ H (Same.refl _) rep_bool
    · cases e
  · rename_i t kvs
    split at e
    · rename_i hf
      cases e
      obtain ⟨a, o, rfl, g, ro⟩ := Rep.dget_ (H2 := H) (fun a u n h => SameR.hide_all.rd a u n h) (fun a xs h => (hide_of h).1) r2 r1 hf
      refine .inr (.inr ⟨a, o, rfl, g, ?_⟩)
      show Q (.bl o.isSome) H
      rw [ro.some_eq]
      exact k _ H (Same.refl _) rep_bool
    · cases e
  · cases e
theorem od_notin (hu : X.A.units + 1 < cLine) : OpD X (compareOp .NotIn) dNotIn := by
  refine ⟨_, op_notIn_sign.or (op_notIn_seq.or (op_notin_dic hu)), fun O H x y d1 d2 d Q hO r1 r2 e k => ?_⟩
  unfold dNotIn at e
  split at e
  · rename_i s
    split at e
    · rename_i c
      cases e
      unfold Rep at r1 r2
      obtain ⟨rfl, _⟩ := r1
      obtain ⟨rfl, _⟩ := r2
      refine .inl ⟨c, _, rfl, rfl, ?_⟩
      rw [contains_iff]
      exact k _ H (Same.refl _) rep_bool
    · cases e
  · rename_i l
    split at e
    · rename_i hf
      cases e
      unfold Rep at r2
      obtain ⟨p, xs, rfl, h1, h2, _⟩ := r2
      obtain ⟨g1, g2⟩ := RepL.flats r1 hf.1 h2 hf.2
      refine .inr (.inl ⟨p, xs, rfl, .inr (SqT.of (hide_of h1).1), r1.flat hf.1, g1, ?_⟩)
      show Q (.bl (!inV x xs)) H
      rw [g2]
      exact k _ H (Same.refl _) rep_bool
    · cases e
  · rename_i l
    split at e
    · rename_i hf
      cases e
      unfold Rep at r2
      obtain ⟨p, xs, rfl, h1, h2, _⟩ := r2
      obtain ⟨g1, g2⟩ := RepL.flats r1 hf.1 h2 hf.2
      refine .inr (.inl ⟨p, xs, rfl, .inl (SqL.of (hide_of h1).1), r1.flat hf.1, g1, ?_⟩)
      show Q (.bl (!inV x xs)) H
      rw [g2]
      exact k _ H (Same.refl _) rep_bool
    · cases e
  · rename_i t kvs
    split at e
    · rename_i hf
      cases e
      obtain ⟨a, o, rfl, g, ro⟩ := Rep.dget_ (H2 := H) (fun a u n h => SameR.hide_all.rd a u n h) (fun a xs h => (hide_of h).1) r2 r1 hf
      refine .inr (.inr ⟨a, o, rfl, g, ?_⟩)
      show Q (.bl (!o.isSome)) H
      rw [ro.some_eq]
      exact k _ H (Same.refl _) rep_bool
    · cases e
  · cases e

/-! ### subscripts -/
/-- a place from the front or from the end -/
def atD {α : Type} (l : List α) (i : Int) : Option α := if 0 ≤ i then l[i.toNat]? else if -(l.length : Int) ≤ i then l[(i + l.length).toNat]? else none
theorem atI_atD {α : Type} (l : List α) (i : Int) : atI l i = atD l i := by
  unfold atI ixN atD
  by_cases h0 : 0 ≤ i
  · rw [if_pos h0, if_pos h0]
    by_cases h1 : i < (l.length : Int)
    · rw [if_pos h1]; rfl
    · rw [if_neg h1]
      exact (List.getElem?_eq_none (by omega)).symm
  · rw [if_neg h0, if_neg h0]
    by_cases h1 : -(l.length : Int) ≤ i
    · rw [if_pos h1, if_pos h1]; rfl
    · rw [if_neg h1, if_neg h1]; rfl
theorem RepL.atD {K : PySem.W.Frag} {H : Hp} {l : List D} {xs : List V} {i : Int} {d : D} (r : RepL K H l xs) (e : atD l i = some d) : ∃ v, atI xs i = some v ∧ Rep K H d v := by
  rw [atI_atD]
  unfold DL.atD at e ⊢
  rw [r.length]
  split at e
  · rename_i h
    rw [if_pos h]
    exact r.get e
  · rename_i h
    rw [if_neg h]
    split at e
    · rename_i h2
      rw [if_pos h2]
      exact r.get e
    · cases e
def dIx (a b : D) : Option D := match a, b with
  | .tup l, .int i => atD l i
  | .ktup l, .int i => atD l i
  | .lst l, .int i => atD l i
  | .str s, .int i => (atD s i).map fun c => .str [c]
  | .scr ns, .int i => (atD ns i).map .int
  | _, _ => none
theorem atD_mem {α : Type} {l : List α} {i : Int} {x : α} (e : atD l i = some x) : x ∈ l := by
  unfold atD at e
  split at e
  · exact List.mem_of_getElem? e
  · split at e
    · exact List.mem_of_getElem? e
    · cases e
theorem atD_map {α β : Type} (f : α → β) (l : List α) (i : Int) : atD (l.map f) i = (atD l i).map f := by
  unfold atD
  split
  · rw [List.getElem?_map]
  · rw [List.length_map]
    split
    · rw [List.getElem?_map]
    · rfl
theorem ix_dIx : IxD X dIx := by
  refine ⟨_, ix_seq, fun O H x y d1 d2 d Q hO r1 r2 e k => ?_⟩
  unfold dIx at e
  split at e
  · unfold Rep at r1
    obtain ⟨p, xs, rfl, h1, h2, _⟩ := r1
    obtain ⟨v, e1, rv⟩ := h2.atD e
    exact .inr (.inl ⟨p, xs, _, v, rfl, rep_int.mp r2, SqT.of (hide_of h1).1, e1, k _ H (Same.refl _) rv⟩)
  · unfold Rep at r1
    obtain ⟨p, xs, rfl, h1, h2, _⟩ := r1
    obtain ⟨v, e1, rv⟩ := h2.atD e
    exact .inr (.inl ⟨p, xs, _, v, rfl, rep_int.mp r2, SqT.monoR SameR.hide_all h1, e1, k _ H (Same.refl _) rv⟩)
  · unfold Rep at r1
    obtain ⟨p, xs, rfl, h1, h2, _⟩ := r1
    obtain ⟨v, e1, rv⟩ := h2.atD e
    exact .inl ⟨p, xs, _, v, rfl, rep_int.mp r2, SqL.of (hide_of h1).1, e1, k _ H (Same.refl _) rv⟩
  · unfold Rep at r1
    obtain ⟨rfl, hs⟩ := r1
    obtain ⟨c, e1, rfl⟩ := Option.map_eq_some_iff.mp e
    refine .inr (.inr ⟨_, _, c, rfl, rep_int.mp r2, by rw [sv_length, Ln_eq]; exact okS_len hs, by rw [sv_list, atI_atD]; exact e1, k _ H (Same.refl _) (rep_str rfl (okS_mk (by show 1 ≤ Ln; decide) fun c' hc' => ?_))⟩)
    rw [List.mem_singleton] at hc'
    subst hc'
    exact okS_asc hs _ (atD_mem e1)
  · unfold Rep at r1
    obtain ⟨p, rfl, h1, _⟩ := r1
    obtain ⟨c, e1, rfl⟩ := Option.map_eq_some_iff.mp e
    refine .inl ⟨p, _, _, .int c, rfl, rep_int.mp r2, h1.elim (fun q => .inl (SameR.hide_all.rd _ _ nf_lst q)) .inr, ?_, k _ H (Same.refl _) rep_i⟩
    rw [atI_atD, atD_map, e1]
    rfl
  · cases e
end
end DL

/-! DK: dicts read, slices, what is built in, methods of texts -/
namespace DL
open PySem L2
section
variable {X : Cx} {W : WX} {G : Gx}
/-! ### d[k] of any kind -/
def dGetI (a b : D) : Option D := match a with
  | .dic t kvs => if fitK t b = true then dget kvs b else none
  | a => dIx a b
def rIxDic : R2 := fun x y H Q => ∃ a v, x = .ref a ∧ DGet H a y (some v) ∧ Q v H
theorem ix_dic (hu : X.A.units + 1 < cLine) : IxR X rIxDic := by
  intro value slice pins s σ H x y v u Q I rx ry h hsub
  obtain ⟨a, r, rfl, g, q⟩ := h
  cases (show v = Value.ref a from rx)
  exact PyProof.Rows.tail_any (dict_typeIs I g) PySem.F.slot_dict_getitem.lookup (d_getItem hu I g ry fun w' s' I' rw' => ⟨r, H, I', rw', q⟩) hsub
theorem ix_any (hu : X.A.units + 1 < cLine) : IxD X dGetI := by
  obtain ⟨r, h1, h2⟩ := (ix_dIx (X := X)).ex
  refine ⟨_, (ix_dic hu).or h1, fun O H x y d1 d2 d Q hO r1 r2 e k => ?_⟩
  unfold dGetI at e
  split at e
  · rename_i t kvs
    split at e
    · rename_i hf
      obtain ⟨a, o, rfl, g, ro⟩ := Rep.dget_ (H2 := H) (fun a u n h => SameR.hide_all.rd a u n h) (fun a xs h => (hide_of h).1) r1 r2 hf
      rw [e] at ro
      cases o with
      | none => exact ro.elim
      | some v => exact .inl ⟨a, v, rfl, g, k v H (Same.refl _) ro⟩
    · cases e
  · exact .inr (h2 O H x y d1 d2 d Q hO r1 r2 e k)

/-! ### slices -/
structure OD (X : Cx) (W : WX) (G : Gx) (e : Option Expr) (f : DS → R (Option Int × DS)) : Prop where
  ex : ∃ t, PO X e t ∧ ∀ b O H σ ds Q, DI X.K G b O H σ ds → EPost X.K G b W (fun _ (o v : Option Int) => o = v) H O σ Q (f ds) → t σ H Q
def oNone (ds : DS) : R (Option Int × DS) := .ok (none, ds)
def oSome (f : DS → R (D × DS)) (ds : DS) : R (Option Int × DS) := (f ds).bind fun p => match p.1 with
  | .int i => .ok (some i, p.2)
  | _ => .stuck
theorem od_none : OD X W G none oNone := ⟨tNoPart, po_none, fun b O H σ ds Q I h => EPost.done (rel := fun _ (o v : Option Int) => o = v) h I rfl⟩
theorem od_some {e : Expr} {f : DS → R (D × DS)} (h : ED X W G e f) : OD X W G (some e) (oSome f) := by
  obtain ⟨t, p, r⟩ := h.ex
  refine ⟨tPart t, po_some p, fun b O H σ ds Q I h => ?_⟩
  refine r b O H σ ds _ I (EPost.bind h fun d1 ds1 v1 H1 O1 w1 I1 x1 r1 h1 => ?_)
  cases d1 <;> first
    | exact h1.elim
    | (rename_i i; exact ⟨i, rep_int.mp r1, EPost.done (rel := fun _ (o v : Option Int) => o = v) h1 I1 rfl⟩)
def cutD {α : Type} (l : List α) (lo hi : Option Int) : List α := (l.drop (HT.sIx l.length 0 lo)).take (HT.sIx l.length l.length hi - HT.sIx l.length 0 lo)
def dSl (d : D) (lo hi : Option Int) : Option D := match d with
  | .str s => some (.str (cutD s lo hi))
  | .tup l => some (.tup (cutD l lo hi))
  | .lst l => some (.lst (cutD l lo hi))
  | _ => none
def fSl (f : DS → R (D × DS)) (fl fh : DS → R (Option Int × DS)) (ds : DS) : R (D × DS) := (f ds).bind fun p => (fl p.2).bind fun q => (fh q.2).bind fun r => lft (dSl p.1 q.1 r.1) r.2
theorem cutD_len {α : Type} (l : List α) (lo hi : Option Int) : (cutD l lo hi).length ≤ l.length := by
  unfold cutD
  rw [List.length_take, List.length_drop]
  omega
theorem cutD_mem {α : Type} {l : List α} {lo hi : Option Int} {x : α} (h : x ∈ cutD l lo hi) : x ∈ l := List.mem_of_mem_drop (List.mem_of_mem_take h)
theorem RepL.cut {K : PySem.W.Frag} {H : Hp} {l : List D} {xs : List V} (r : RepL K H l xs) (lo hi : Option Int) : RepL K H (cutD l lo hi) (cutV xs lo hi) := by
  unfold cutD cutV
  rw [r.length]
  exact RepL.take _ (RepL.drop _ r)
theorem ed_slice {e : Expr} {lo hi : Option Expr} {f : DS → R (D × DS)} {fl fh : DS → R (Option Int × DS)} {p2 pos : Pos} (he : ED X W G e f) (hl : OD X W G lo fl) (hh : OD X W G hi fh) : ED X W G (.Subscript e (.Slice lo hi none p2) pos) (fSl f fl fh) := by
  obtain ⟨t, p, r⟩ := he.ex
  obtain ⟨tl, pl, rl⟩ := hl.ex
  obtain ⟨th, ph, rh⟩ := hh.ex
  refine ⟨_, pe_slice (sl_str.or (sl_tupA.or sl_list)) p pl ph, fun b O H σ ds Q I h => ?_⟩
  refine r b O H σ ds _ I (EPost.bind h fun d1 ds1 v1 H1 O1 w1 I1 x1 r1 h1 => ?_)
  refine rl b O1 H1 σ ds1 _ I1 (EPost.bind (rel := fun _ (o v : Option Int) => o = v) h1 fun lo ds2 lo' H2 O2 w2 I2 x2 r2 h2 => ?_)
  cases (show lo = lo' from r2)
  refine rh b O2 H2 σ ds2 _ I2 (EPost.bind (rel := fun _ (o v : Option Int) => o = v) h2 fun hi ds3 hi' H3 O3 w3 I3 x3 r3 h3 => ?_)
  cases (show hi = hi' from r3)
  obtain ⟨d, e1, h4⟩ := EPost.lft h3
  have r0 : Rep X.K (hide H3 O3) d1 v1 := Rep.mono x3.same _ _ (Rep.mono x2.same _ _ r1)
  dsimp only at e1
  unfold dSl at e1
  split at e1
  · rename_i s
    cases e1
    unfold Rep at r0
    obtain ⟨rfl, hs⟩ := r0
    refine .inl ⟨_, rfl, by rw [sv_length, Ln_eq]; exact okS_len hs, EPost.done (rel := relE X.K) h4 I3 (rep_str ?_ (okS_mk (Nat.le_trans (cutD_len s lo hi) (okS_len hs)) fun c hc => okS_asc hs c (cutD_mem hc)))⟩
    unfold cutS cutD sv
    simp [Str.length]
  · rename_i l
    cases e1
    have r00 := r0
    unfold Rep at r0
    obtain ⟨a, xs, rfl, g1, g2, g3⟩ := r0
    refine .inr (.inl ⟨a, xs, rfl, SqT.of (hide_of g1).1, fun z => ?_, fun _ p np => ?_⟩)
    · have : cutD l lo hi = l := by
        rw [g2.length] at z
        unfold cutD
        rw [z.1, z.2]
        simp
      rw [this] at h4
      exact EPost.done (rel := relE X.K) h4 I3 r00
    · exact h4.grow (rel := relE X.K) I3 (same_upd np) (rep_newT np (fresh_O I3 np) (g2.cut lo hi) (Nat.le_trans (cutD_len l lo hi) g3))
  · rename_i l
    cases e1
    unfold Rep at r0
    obtain ⟨a, xs, rfl, g1, g2, g3⟩ := r0
    exact .inr (.inr ⟨a, xs, rfl, SqL.of (hide_of g1).1, fun p np => h4.grow (rel := relE X.K) I3 (same_upd np) (rep_newL np (fresh_O I3 np) (g2.cut lo hi) (Nat.le_trans (cutD_len l lo hi) g3))⟩)
  · cases e1

/-! ### what is built in -/
def dLen (l : List D) : Option D := match l with
  | [.str s] => some (.int s.length)
  | [.tup s] => some (.int s.length)
  | [.lst s] => some (.int s.length)
  | [.scr s] => some (.int s.length)
  | _ => none
theorem RepL.one_inv {K : PySem.W.Frag} {H : Hp} {d : D} {vs : List V} (h : RepL K H [d] vs) : ∃ v, vs = [v] ∧ Rep K H d v := by
  unfold RepL at h
  obtain ⟨x, s, rfl, h1, h2⟩ := h
  unfold RepL at h2
  subst h2
  exact ⟨x, rfl, h1⟩
theorem RepL.two_inv {K : PySem.W.Frag} {H : Hp} {d e : D} {vs : List V} (h : RepL K H [d, e] vs) : ∃ v u, vs = [v, u] ∧ Rep K H d v ∧ Rep K H e u := by
  unfold RepL at h
  obtain ⟨x, s, rfl, h1, h2⟩ := h
  obtain ⟨u, rfl, h3⟩ := RepL.one_inv h2
  exact ⟨x, u, rfl, h1, h3⟩
theorem cd_len : CallD X (.builtin "len") dLen := by
  refine ⟨_, call_len, fun O H vs ds d Q hO r e k => ?_⟩
  unfold dLen at e
  split at e
  · rename_i s
    cases e
    obtain ⟨v, rfl, r9⟩ := r.one_inv
    unfold Rep at r9
    obtain ⟨rfl, hs⟩ := r9
    exact ⟨_, s.length, rfl, ⟨by rw [sv_length, Ln_eq]; exact okS_len hs, by rw [sv_length]⟩, k _ H (Same.refl _) rep_i⟩
  · rename_i s
    cases e
    obtain ⟨v, rfl, r9⟩ := r.one_inv
    unfold Rep at r9
    obtain ⟨a, xs, rfl, g1, g2, g3⟩ := r9
    exact ⟨_, s.length, rfl, .inr ⟨xs, SqT.of (hide_of g1).1, g2.length.symm⟩, k _ H (Same.refl _) rep_i⟩
  · rename_i s
    cases e
    obtain ⟨v, rfl, r9⟩ := r.one_inv
    unfold Rep at r9
    obtain ⟨a, xs, rfl, g1, g2, g3⟩ := r9
    exact ⟨_, s.length, rfl, .inl ⟨xs, SqL.of (hide_of g1).1, g2.length.symm⟩, k _ H (Same.refl _) rep_i⟩
  · rename_i s
    cases e
    obtain ⟨v, rfl, r9⟩ := r.one_inv
    unfold Rep at r9
    obtain ⟨a, rfl, g1, _⟩ := r9
    exact ⟨_, s.length, rfl, .inl ⟨_, g1.elim (fun q => .inl (SameR.hide_all.rd _ _ nf_lst q)) .inr, (List.length_map ..).symm⟩, k _ H (Same.refl _) rep_i⟩
  · cases e
/-- the name of a built-in class, as a value -/
theorem ed_ty (T : String) {x : Str} {pos : Pos} (hm : X.mg x = none) (hv : bootBuiltins x = some (.type T)) (hg : Gl X x := by rfl) (hn : x ≠ "__name__" := by decide) (hd : (x == ("__debug__" : Str)) = false := by decide) : ED X W G (.Name x pos) (vC (.op (.ty T))) :=
  ed_c (v := .ty T) (pe_bltn hg hm hv rfl hn hd) fun _ => by unfold Rep; rfl
/-- the class of a datum -/
def tyD : D → Option String
  | .non => some "NoneType"
  | .bl _ => some "bool"
  | .int _ => some "int"
  | .str _ => some "str"
  | .tup _ => some "tuple"
  | .lst _ => some "list"
  | .dic 0 _ => some "dict"
  | _ => none
/-- the tests of a class that these programs ask -/
def isTy (a b : String) : Option Bool := if (["NoneType", "bool", "int", "str", "tuple", "list", "dict"] : List String).contains a = true ∧ (["str", "tuple", "list", "dict"] : List String).contains b = true then some (decide (a = b)) else none
def dIsi (l : List D) : Option D := match l with
  | [d, .op (.ty T)] => match tyD d with
    | some t => (isTy t T).map .bl
    | none => none
  | _ => none
theorem Rep.ty {K : PySem.W.Frag} {H : Hp} {O : Addr → Bool} {d : D} {v : V} {t : String} (h : Rep K (hide H O) d v) (e : tyD d = some t) : TyX K H v (.type t) := by
  unfold tyD at e
  split at e <;> first | cases e
  · cases rep_non.mp h; exact .base .non
  · cases rep_bl.mp h; exact .base (.bl _)
  · cases rep_int.mp h; exact .base (.int _)
  · unfold Rep at h; obtain ⟨rfl, _⟩ := h; exact .base (.str _)
  · unfold Rep at h; obtain ⟨a, xs, rfl, h1, _⟩ := h; exact .base (.tup (hide_of h1).1)
  · unfold Rep at h; obtain ⟨a, xs, rfl, h1, _⟩ := h; exact .base (.lst (hide_of h1).1)
  · unfold Rep at h
    obtain ⟨a, rfl, _, h⟩ := h
    rcases h with ⟨_, ks, q, _⟩ | ⟨z, _⟩
    · rcases q with q | ⟨o, q⟩
      · exact .base (.dK (hide_of q).1)
      · exact .fDict (hide_of q).1
    · cases z
theorem isTy_kit {K : PySem.W.Frag} {a b : String} {r : Bool} (h : isTy a b = some r) : PySem.W.kitOne K (.type a) (.type b) = some r := by
  unfold isTy at h
  split at h
  · rename_i hc
    cases h
    obtain ⟨h1, h2⟩ := hc
    have h1 := List.contains_iff_mem.mp h1
    have h2 := List.contains_iff_mem.mp h2
    simp only [List.mem_cons, List.not_mem_nil, or_false] at h1 h2
    rcases h1 with rfl | rfl | rfl | rfl | rfl | rfl | rfl <;> rcases h2 with rfl | rfl | rfl | rfl <;> exact kit_ty (by decide +kernel)
  · cases h
theorem cd_isi : CallD X (.builtin "isinstance") dIsi := by
  refine ⟨_, call_isi, fun O H vs ds d Q hO r e k => ?_⟩
  unfold dIsi at e
  split at e
  · rename_i d0 T
    split at e
    · rename_i t et
      obtain ⟨b, e1, rfl⟩ := Option.map_eq_some_iff.mp e
      obtain ⟨v, u, rfl, r1, r2⟩ := r.two_inv
      unfold Rep at r2
      subst r2
      exact ⟨v, .ty T, .type t, .type T, b, rfl, .ty T, r1.ty et, isTy_kit e1, k _ H (Same.refl _) rep_bool⟩
    · cases e
  · cases e
/-- isinstance(x, (T, U)) -/
def dIsiT (l : List D) : Option D := match l with
  | [d, .tup [.op (.ty T), .op (.ty U)]] => match tyD d with
    | some t => match isTy t T, isTy t U with
      | some a, some b => some (.bl (a || b))
      | _, _ => none
    | none => none
  | _ => none
theorem cd_isiT : CallD X (.builtin "isinstance") dIsiT := by
  refine ⟨_, call_isiT, fun O H vs ds d Q hO r e k => ?_⟩
  unfold dIsiT at e
  split at e
  · rename_i d0 T U
    split at e
    · rename_i t et
      split at e
      · rename_i a b ea eb
        cases e
        obtain ⟨v, u, rfl, r1, r2⟩ := r.two_inv
        unfold Rep at r2
        obtain ⟨p, xs, rfl, h1, h2, _⟩ := r2
        obtain ⟨y, z, rfl, r3, r4⟩ := h2.two_inv
        unfold Rep at r3 r4
        subst r3; subst r4
        refine ⟨v, p, [.ty T, .ty U], .type t, [.type T, .type U], a || b, rfl, (hide_of h1).1, .cons (.ty T) (.cons (.ty U) .nil), r1.ty et, ?_, k _ H (Same.refl _) rep_bool⟩
        refine kitAny_cons (isTy_kit ea) (fun z => ?_) (fun z => by rw [z]; rfl)
        subst z
        exact kitAny_cons (isTy_kit eb) (fun z => by subst z; exact kitAny_nil) (fun z => by rw [z]; rfl)
      · cases e
    · cases e
  · cases e
def bools : List D → Option (List Bool)
  | [] => some []
  | .bl b :: r => (bools r).map (b :: ·)
  | _ :: _ => none
theorem RepL.bools {K : PySem.W.Frag} {H : Hp} : ∀ {l : List D} {xs : List V} {bs : List Bool}, RepL K H l xs → DL.bools l = some bs → xs = bs.map V.bl
  | [], xs, bs, h, e => by unfold RepL at h; simp only [DL.bools, Option.some.injEq] at e; subst e; exact h
  | d :: l, xs, bs, h, e => by
    unfold RepL at h
    obtain ⟨x, s, rfl, h1, h2⟩ := h
    cases d <;> simp only [DL.bools, reduceCtorEq] at e
    obtain ⟨bs', e1, rfl⟩ := Option.map_eq_some_iff.mp e
    rw [rep_bl.mp h1, RepL.bools h2 e1, List.map_cons]
def dAll (l : List D) : Option D := match l with
  | [.lst s] => (bools s).map fun b => .bl (b.all id)
  | _ => none
def dAny (l : List D) : Option D := match l with
  | [.lst s] => (bools s).map fun b => .bl (b.any id)
  | _ => none
theorem cd_all (hc : X.calm = true) : CallD X (.builtin "all") dAll := by
  refine ⟨_, cr_all hc, fun O H vs ds d Q hO r e k => ?_⟩
  unfold dAll at e
  split at e
  · obtain ⟨bs, e1, rfl⟩ := Option.map_eq_some_iff.mp e
    obtain ⟨v, rfl, r9⟩ := r.one_inv
    unfold Rep at r9
    obtain ⟨a, xs, rfl, g1, g2, _⟩ := r9
    exact ⟨a, bs, rfl, by rw [← g2.bools e1]; exact SqL.of (hide_of g1).1, k _ H (Same.refl _) rep_bool⟩
  · cases e
theorem cd_any (hc : X.calm = true) : CallD X (.builtin "any") dAny := by
  refine ⟨_, cr_any hc, fun O H vs ds d Q hO r e k => ?_⟩
  unfold dAny at e
  split at e
  · obtain ⟨bs, e1, rfl⟩ := Option.map_eq_some_iff.mp e
    obtain ⟨v, rfl, r9⟩ := r.one_inv
    unfold Rep at r9
    obtain ⟨a, xs, rfl, g1, g2, _⟩ := r9
    exact ⟨a, bs, rfl, by rw [← g2.bools e1]; exact SqL.of (hide_of g1).1, k _ H (Same.refl _) rep_bool⟩
  · cases e
def intsD : List D → Option (List Int)
  | [] => some []
  | .int b :: r => (intsD r).map (b :: ·)
  | _ :: _ => none
theorem RepL.ints {K : PySem.W.Frag} {H : Hp} : ∀ {l : List D} {xs : List V} {bs : List Int}, RepL K H l xs → intsD l = some bs → xs = bs.map V.int
  | [], xs, bs, h, e => by unfold RepL at h; simp only [intsD, Option.some.injEq] at e; subst e; exact h
  | d :: l, xs, bs, h, e => by
    unfold RepL at h
    obtain ⟨x, s, rfl, h1, h2⟩ := h
    cases d <;> simp only [intsD, reduceCtorEq] at e
    obtain ⟨bs', e1, rfl⟩ := Option.map_eq_some_iff.mp e
    rw [rep_int.mp h1, RepL.ints h2 e1, List.map_cons]
def dSum (l : List D) : Option D := match l with
  | [.lst s] => (intsD s).map fun b => .int b.sum
  | _ => none
theorem cd_sum (hc : X.calm = true) : CallD X (.builtin "sum") dSum := by
  refine ⟨_, cr_sum hc, fun O H vs ds d Q hO r e k => ?_⟩
  unfold dSum at e
  split at e
  · obtain ⟨bs, e1, rfl⟩ := Option.map_eq_some_iff.mp e
    obtain ⟨v, rfl, r9⟩ := r.one_inv
    unfold Rep at r9
    obtain ⟨a, xs, rfl, g1, g2, _⟩ := r9
    exact ⟨a, bs, rfl, by rw [← g2.ints e1]; exact SqL.of (hide_of g1).1, k _ H (Same.refl _) rep_i⟩
  · cases e
/-- tuple(x), list(x) -/
def dTuple (l : List D) : Option D := match l with
  | [.lst s] => some (.tup s)
  | [.tup s] => some (.tup s)
  | _ => none
theorem cd_tuple : CallD X (.type "tuple") dTuple := by
  refine ⟨_, call_tuple_of, fun O H vs ds d Q hO r e k => ?_⟩
  unfold dTuple at e
  split at e
  · cases e
    obtain ⟨v, rfl, r9⟩ := r.one_inv
    unfold Rep at r9
    obtain ⟨a, xs, rfl, g1, g2, g3⟩ := r9
    exact ⟨a, xs, rfl, .inl ⟨SqL.of (hide_of g1).1, fun p np => k _ _ (same_upd np) (rep_newT np (hO p np) g2 g3)⟩⟩
  · cases e
    obtain ⟨v, rfl, r9⟩ := r.one_inv
    have r8 := r9
    unfold Rep at r9
    obtain ⟨a, xs, rfl, g1, g2, g3⟩ := r9
    exact ⟨a, xs, rfl, .inr ⟨SqT.of (hide_of g1).1, k _ H (Same.refl _) r8⟩⟩
  · cases e

/-! ### methods of texts -/
def fM1 (g : D → D → Option D) (fo fe : DS → R (D × DS)) (ds : DS) : R (D × DS) := (fo ds).bind fun p => match p.1 with
  | .str s => (fe p.2).bind fun q => lft (g (.str s) q.1) q.2
  | _ => .stuck
structure MtD1 (X : Cx) (id : String) (g : D → D → Option D) : Prop where
  ex : ∃ r, MtR X id r ∧ ∀ (O : Addr → Bool) (H : Hp) (s : List Nat) (y : V) (e d : D) (Q : VK), (∀ p, H p = none → O p = false) → okS s = true → Rep X.K (hide H O) e y → g (.str s) e = some d → (∀ v H', Same H H' → Rep X.K (hide H' O) d v → Q v H') → r (.str (sv s)) [y] H Q
/-- what sep.join(xs) gives -/
def strsD : List D → Option (List (List Nat))
  | [] => some []
  | .str b :: r => (strsD r).map (b :: ·)
  | _ :: _ => none
theorem RepL.strs {K : PySem.W.Frag} {H : Hp} : ∀ {l : List D} {xs : List V} {bs : List (List Nat)}, RepL K H l xs → strsD l = some bs → xs = (bs.map sv).map V.str ∧ ∀ b ∈ bs, okS b = true
  | [], xs, bs, h, e => by unfold RepL at h; simp only [strsD, Option.some.injEq] at e; subst e; exact ⟨h, by simp⟩
  | d :: l, xs, bs, h, e => by
    unfold RepL at h
    obtain ⟨x, s, rfl, h1, h2⟩ := h
    cases d <;> simp only [strsD, reduceCtorEq] at e
    obtain ⟨bs', e1, rfl⟩ := Option.map_eq_some_iff.mp e
    unfold Rep at h1
    obtain ⟨g1, g2⟩ := RepL.strs h2 e1
    refine ⟨by rw [h1.1, g1]; rfl, fun b hb => ?_⟩
    rcases List.mem_cons.mp hb with rfl | hb
    · exact h1.2
    · exact g2 b hb
/-- xs joined by s -/
def joinD (s : List Nat) : List (List Nat) → List Nat
  | [] => []
  | [x] => x
  | x :: y :: r => x ++ (s ++ joinD s (y :: r))
theorem joinD_eq (s : List Nat) : ∀ l, TL.joinL s l = joinD s l
  | [] => rfl
  | [x] => by simp [TL.joinL, joinD]
  | x :: y :: r => by simp only [TL.joinL, joinD, joinD_eq s (y :: r)]
def dJoin (a b : D) : Option D := match a, b with
  | .str s, .lst l => match strsD l with
    | some bs => if (bs.map (·.length)).sum + bs.length * s.length ≤ Ln then some (.str (joinD s bs)) else none
    | none => none
  | _, _ => none
theorem joinD_len (s : List Nat) : ∀ l : List (List Nat), (joinD s l).length ≤ (l.map (·.length)).sum + l.length * s.length
  | [] => by simp [joinD]
  | [x] => by simp [joinD]
  | x :: y :: r => by
    have := joinD_len s (y :: r)
    simp only [joinD, List.length_append, List.map_cons, List.sum_cons, List.length_cons, Nat.add_mul, Nat.one_mul] at this ⊢
    omega
theorem joinD_mem (s : List Nat) {c : Nat} : ∀ l : List (List Nat), c ∈ joinD s l → c ∈ s ∨ ∃ x ∈ l, c ∈ x
  | [], h => by simp [joinD] at h
  | [x], h => .inr ⟨x, by simp, h⟩
  | x :: y :: r, h => by
    simp only [joinD, List.mem_append] at h
    rcases h with h | h | h
    · exact .inr ⟨x, by simp, h⟩
    · exact .inl h
    · rcases joinD_mem s (y :: r) h with q | ⟨z, q1, q2⟩
      · exact .inl q
      · exact .inr ⟨z, List.mem_cons_of_mem _ q1, q2⟩
theorem md_join : MtD1 X "str.join" dJoin := by
  refine ⟨_, mt_join, fun O H s y e d Q hO hs r eg k => ?_⟩
  · unfold dJoin at eg
    split at eg
    · rename_i s' l e1
      cases e1
      split at eg
      · rename_i bs eb
        split at eg
        · rename_i hl
          cases eg
          unfold Rep at r
          obtain ⟨a, xs, rfl, g1, g2, _⟩ := r
          obtain ⟨q1, q2⟩ := g2.strs eb
          refine ⟨_, a, bs.map sv, rfl, rfl, .inl (by rw [← q1]; exact SqL.of (hide_of g1).1), ?_, k _ H (Same.refl _) ?_⟩
          · rw [List.map_map, List.length_map, show ((fun x : Str => x.length) ∘ sv) = fun x => x.length from funext sv_length, sv_length]
            exact hl
          · refine rep_str ?_ (okS_mk (Nat.le_trans (joinD_len s bs) hl) fun c hc => ?_)
            · rw [← sv_of (Txt.join (sv s) (bs.map sv)), TL.join_eq]
              congr 1
              have e3 : (bs.map sv).map TL.tl = bs := by
                rw [List.map_map]
                have : (TL.tl ∘ sv) = id := funext sv_list
                rw [this, List.map_id]
              exact (TL.tl_join (sv s) (bs.map sv)).trans (by rw [e3, show TL.tl (sv s) = s from sv_list s, joinD_eq])
            · rcases joinD_mem s bs hc with q | ⟨x, q3, q4⟩
              · exact okS_asc hs c q
              · exact okS_asc (q2 x q3) c q4
        · cases eg
      · cases eg
    · cases eg
theorem ed_m1 {o e : Expr} {fo fe : DS → R (D × DS)} {id : String} {name : Str} {apos pos : Pos} {g : D → D → Option D} (slot : Slot "str" name id) (ty : typeOf (.builtin id) = pure (.type "method_descriptor")) (rule : MtD1 X id g) (ho : ED X W G o fo) (he : ED X W G e fe)
    (hs : starEach [e] X.env = [(false, eval e X.env)] := by rfl) (hbase : attributeBase o name X.env (eval o X.env) = eval o X.env := by rfl) (hline : (apos.endLine == pos.line) = true := by rfl) : ED X W G (.Call (.Attribute o name apos) [e] [] pos) (fM1 g fo fe) := by
  obtain ⟨to, po, ro⟩ := ho.ex
  obtain ⟨te, pe, re⟩ := he.ex
  obtain ⟨r, m, rm⟩ := rule.ex
  refine ⟨tM1 r to te, pe_m1 slot ty m po pe hs hbase hline, fun b O H σ ds Q I h => ?_⟩
  refine ro b O H σ ds _ I (EPost.bind h fun d1 ds1 v1 H1 O1 w1 I1 x1 r1 h1 => ?_)
  dsimp only at h1
  split at h1
  case h_2 => exact h1.elim
  rename_i z9 s
  have r1 : Rep X.K (hide H1 O1) (.str s) v1 := r1
  unfold Rep at r1
  obtain ⟨rfl, hs1⟩ := r1
  refine ⟨⟨_, rfl⟩, re b O1 H1 σ ds1 _ I1 (EPost.bind h1 fun d2 ds2 v2 H2 O2 w2 I2 x2 r2 h2 => ?_)⟩
  obtain ⟨d, e1, h3⟩ := EPost.lft h2
  exact rm O2 H2 s v2 d2 d Q (fun p np => fresh_O I2 np) hs1 r2 e1 fun v H' s r => h3.grow (rel := relE X.K) I2 s r
end
end DL

/-! DO: what a name owns, read; += ; walks of dicts under a lock; ranges, enumerate -/
namespace DL
open PySem L2
section
variable {X : Cx} {W : WX} {G : Gx}
def dNeg (d : D) : Option D := match d with
  | .int i => some (.int (-i))
  | _ => none
def fUn (g : D → Option D) (f : DS → R (D × DS)) (ds : DS) : R (D × DS) := (f ds).bind fun p => lft (g p.1) p.2
theorem ed_neg {a : Expr} {f : DS → R (D × DS)} {pos : Pos} (h : ED X W G a f) : ED X W G (.UnaryOp .USub a pos) (fUn dNeg f) := by
  obtain ⟨t, p, r⟩ := h.ex
  refine ⟨_, pe_un un_neg p, fun b O H σ ds Q I h => r b O H σ ds _ I (EPost.bind h fun d1 ds1 v1 H1 O1 w1 I1 x1 r1 h1 => ?_)⟩
  obtain ⟨d, e, h2⟩ := EPost.lft h1
  cases d1 <;> simp only [dNeg, Option.some.injEq, reduceCtorEq] at e
  subst e
  exact ⟨_, rep_int.mp r1, EPost.done (rel := relE X.K) h2 I1 rep_i⟩
/-- a op b op' c as a test -/
theorem td_chain {op op' : CmpOp} {a b c : Expr} {fa fb fc : DS → R (D × DS)} {g g' : D → D → Option D} {pos : Pos} (ho : OpD X (compareOp op) g) (ho' : OpD X (compareOp op') g') (ha : ED X W G a fa) (hb : ED X W G b fb) (hc : ED X W G c fc)
    (hm : lastMarks [op, op'] [b, c] = false := by with_unfolding_all rfl) : TD X W G (.Compare a [op, op'] [b, c] pos) (toB (fChain g g' fa fb fc)) := by
  obtain ⟨ta, pa, ra⟩ := ha.ex
  obtain ⟨tb, pb, rb⟩ := hb.ex
  obtain ⟨tc, pc, rc⟩ := hc.ex
  obtain ⟨r, po, rr⟩ := ho.ex
  obtain ⟨r', po', rr'⟩ := ho'.ex
  refine ⟨_, pt_chain po po' pa pb pc hm, fun b O H σ ds Q I h => ?_⟩
  show tChain r r' ta tb tc σ H _
  have h : EPost X.K G b W relB H O σ Q ((fChain g g' fa fb fc ds).bind fun p => match p.1 with
      | .bl b => .ok (b, p.2)
      | _ => .stuck) := h
  have fin : ∀ (d : D) (ds' : DS) (v : V) (H' : Hp) (O' : Addr → Bool), DI X.K G b O' H' σ ds' → Rep X.K (hide H' O') d v → EPost X.K G b W relB H' O' σ Q (match d with | .bl b => .ok (b, ds') | _ => .stuck) → ∃ k, v = .bl k ∧ Q k H' := fun d ds' v H' O' I' rv h' => by
    cases d <;> first
      | exact h'.elim
      | (rename_i bb; exact ⟨bb, rep_bl.mp rv, EPost.done (rel := relB) h' I' rfl⟩)
  unfold fChain at h
  have a1 : ∀ {α β γ : Type} (r : R α) (f : α → R β) (g : β → R γ), (r.bind f).bind g = r.bind fun x => (f x).bind g := fun r f g => by cases r <;> rfl
  rw [a1] at h
  refine ra b O H σ ds _ I (EPost.bind h fun d1 ds1 v1 H1 O1 w1 I1 x1 r1 h1 => ?_)
  dsimp only at h1
  rw [a1] at h1
  refine rb b O1 H1 σ ds1 _ I1 (EPost.bind h1 fun d2 ds2 v2 H2 O2 w2 I2 x2 r2 h2 => ?_)
  dsimp only at h2
  rw [a1] at h2
  cases e : g d1 d2 with
  | none => rw [e] at h2; exact h2.elim
  | some d =>
    rw [e] at h2
    refine rr O2 H2 v1 v2 d1 d2 d _ (fun p np => fresh_O I2 np) (Rep.mono x2.same _ _ r1) r2 e fun v H' s rv => ?_
    have h3 := EPost.step h2 (Ext.new I2 s)
    have I3 := I2.new' s
    cases d <;> first
      | exact h3.elim
      | skip
    rename_i k
    refine ⟨k, rep_bl.mp rv, ?_⟩
    cases k with
    | false => exact iteF (fin _ ds2 _ H' O2 I3 (rep_bl.mpr rfl) h3)
    | true =>
      have h3 : EPost X.K G b W relB H' O2 σ Q (((fc ds2).bind fun w => lft (g' d2 w.1) w.2).bind fun p => match p.1 with
        | .bl b => .ok (b, p.2)
        | _ => .stuck) := h3
      rw [a1] at h3
      refine iteT (rc b O2 H' σ ds2 _ I3 (EPost.bind h3 fun d3 ds3 v3 H3 O3 w3 I4 x3 r3 h4 => ?_))
      dsimp only at h4
      cases e4 : g' d2 d3 with
      | none => rw [e4] at h4; exact h4.elim
      | some d4 =>
        rw [e4] at h4
        exact rr' O3 H3 v2 v3 d2 d3 d4 _ (fun p np => fresh_O I4 np) (Rep.mono x3.same _ _ (Rep.mono (SameR.of (hide_same s O2)) _ _ r2)) r3 e4 fun v H' s r => fin d4 ds3 v H' O3 (I4.new' s) r (EPost.step h4 (Ext.new I4 s))

/-! ### what a name owns, read -/
/-- the content as a datum -/
def fIxOwn (i : Nat) (f : DS → R (D × DS)) (ds : DS) : R (D × DS) := match ds[i]? with
  | some (.own _) => (f ds).bind fun p => match p.2[i]? with
    | some (.own (.l xs)) => lft (dIx (.lst xs) p.1) p.2
    | some (.own (.d t kvs)) => lft (if fitK t p.1 = true then dget kvs p.1 else none) p.2
    | _ => .stuck
  | _ => .stuck
theorem own_rep {K : PySem.W.Frag} {cm : Nat → Addr} {H : Hp} {O : Addr → Bool} {c : Ct} {d : D} {p : Addr} {o : HO} (e : dOf c = some d) (hp : H p = some o) (r : CtR K cm (hide H O) c o) : Rep K H d (.ref p) := rep_dOf (cm := cm) e hp (r.mono SameR.hide_all)
theorem ed_ixOwn (i : Nat) {x : Str} {e : Expr} {f : DS → R (D × DS)} {p pos : Pos} (hu : X.A.units + 1 < cLine) (he : ED X W G e f) (hN : X.N[i]? = some x := by rfl) (hv : Vis X.env.scope x := by first | exact Or.inl rfl | exact Or.inr (Or.inl rfl) | exact Or.inr (Or.inr rfl))
    (hd : (x == ("__debug__" : Str)) = false := by decide) (hcd : (x == ("__classdict__" : Str)) = false := by decide) (hs : PlainIx e := by exact fun _ _ => rfl) : ED X W G (.Subscript (.Name x p) e pos) (fIxOwn i f) := by
  obtain ⟨t, pt, r⟩ := he.ex
  refine ⟨_, pe_ix ((ix_dic hu).or ix_list) (pe_var hN hv hd hcd) pt hs, fun b O H σ ds Q I h => ?_⟩
  unfold fIxOwn at h
  split at h
  · rename_i c0 e0
    obtain ⟨p0, o, e1, hp, hb, h3, _⟩ := I.own e0
    refine ⟨_, e1, r b O H σ ds _ I (EPost.bind h fun d1 ds1 v1 H1 O1 w1 I1 x1 r1 h1 => ?_)⟩
    dsimp only at h1
    split at h1
    · rename_i xs e2
      obtain ⟨p1, o1, g1, g2, g3, g4, ys, rfl, g5, g6⟩ := I1.own e2
      rw [e1] at g1
      cases g1
      obtain ⟨d, e3, h2⟩ := EPost.lft h1
      cases d1 <;> simp only [dIx, reduceCtorEq] at e3
      obtain ⟨v, q1, q2⟩ := g5.atD e3
      exact .inr ⟨p0, ys, _, v, rfl, rep_int.mp r1, SqL.of g4, q1, EPost.done (rel := relE X.K) h2 I1 q2⟩
    · rename_i t kvs e2
      obtain ⟨p1, o1, g1, g2, g3, g4, g5, g6⟩ := I1.own e2
      rw [e1] at g1
      cases g1
      obtain ⟨d, e3, h2⟩ := EPost.lft h1
      split at e3
      · rename_i hf
        rcases g6 with ⟨rfl, ks, rfl, rk⟩ | ⟨rfl, ks, rfl, rk⟩
        · simp only [fitK] at hf
          obtain ⟨k', ek⟩ := Option.isSome_iff_exists.mp hf
          have q := rk.get k'
          rw [← asKey_eq ek, e3] at q
          cases e4 : valV ks k' with
          | none => rw [e4] at q; exact q.elim
          | some v =>
            rw [e4] at q
            exact .inl ⟨p0, v, rfl, .inl ⟨ks, k', .inl g4, Rep.key r1 ek, e4.symm⟩, EPost.done (rel := relE X.K) h2 I1 q⟩
        · cases d1 <;> simp only [fitK, Bool.false_eq_true] at hf
          rename_i dks
          obtain ⟨k', ek⟩ := Option.isSome_iff_exists.mp hf
          have q := rk.get k'
          rw [show keyT k' = .tup dks by unfold keyT; rw [← asKeys_eq ek], e3] at q
          cases e4 : valV ks k' with
          | none => rw [e4] at q; exact q.elim
          | some v =>
            rw [e4] at q
            have r1 : Rep X.K (hide H1 O1) (.tup dks) v1 := r1
            unfold Rep at r1
            obtain ⟨a, zs, rfl, qa, qr, _⟩ := r1
            exact .inl ⟨p0, v, rfl, .inr ⟨ks, k', a, .inl g4, rfl, by rw [← RepL.keys qr ek]; exact (hide_of qa).1, e4.symm⟩, EPost.done (rel := relE X.K) h2 I1 q⟩
      · cases e3
    · exact h1.elim
  · exact h.elim
/-- xs == e, xs != e -/
def fEqOwn (neg : Bool) (i : Nat) (f : DS → R (D × DS)) (ds : DS) : R (D × DS) := match ds[i]? with
  | some (.own _) => (f ds).bind fun p => match p.2[i]? with
    | some (.own (.l xs)) => lft (if neg = true then dNe (.lst xs) p.1 else dEq (.lst xs) p.1) p.2
    | _ => .stuck
  | _ => .stuck
theorem td_eqOwn (i : Nat) {x : Str} {e : Expr} {f : DS → R (D × DS)} {p pos : Pos} (hu : X.A.units + 64 < cLine) (he : ED X W G e f) (hN : X.N[i]? = some x := by rfl) (hv : Vis X.env.scope x := by first | exact Or.inl rfl | exact Or.inr (Or.inl rfl) | exact Or.inr (Or.inr rfl))
    (hd : (x == ("__debug__" : Str)) = false := by decide) (hcd : (x == ("__classdict__" : Str)) = false := by decide) : TD X W G (.Compare (.Name x p) [.Eq] [e] pos) (toB (fEqOwn false i f)) := by
  obtain ⟨t, pt, r⟩ := he.ex
  refine ⟨_, pt_cmpR (op_eqD hu) (pe_var hN hv hd hcd) pt (nomark _), fun b O H σ ds Q I h => ?_⟩
  have h : EPost X.K G b W relB H O σ Q ((fEqOwn false i f ds).bind fun p => match p.1 with
      | .bl b => .ok (b, p.2)
      | _ => .stuck) := h
  unfold fEqOwn at h
  split at h
  · rename_i c0 e0
    obtain ⟨p0, o, e1, hp, hb, h3, _⟩ := I.own e0
    have a1 : ∀ {α β γ : Type} (r : R α) (f : α → R β) (g : β → R γ), (r.bind f).bind g = r.bind fun x => (f x).bind g := fun r f g => by cases r <;> rfl
    rw [a1] at h
    refine ⟨_, e1, r b O H σ ds _ I (EPost.bind h fun d1 ds1 v1 H1 O1 w1 I1 x1 r1 h1 => ?_)⟩
    dsimp only at h1
    split at h1
    · rename_i xs e2
      obtain ⟨p1, o1, g1, g2, g3, g4, g5⟩ := I1.own e2
      rw [e1] at g1
      cases g1
      have rx := own_rep (c := .l xs) (d := .lst xs) rfl g4 g5
      simp only [Bool.false_eq_true, if_false] at h1
      unfold dEq at h1
      split at h1
      · rename_i hq
        obtain ⟨a1, a2, a3⟩ := Rep.dp 60 _ _ rx hq.1
        obtain ⟨b1, b2, b3⟩ := Rep.dp 60 d1 v1 (Rep.mono SameR.hide_all _ _ r1) hq.2
        refine ⟨_, _, a1, b1, shaped_of a2 a3 (by decide), shaped_of b2 b3 (by decide), _, rfl, ?_⟩
        rw [eqv_eqB 60 60 _ d1 hq.1 hq.2]
        exact EPost.done (rel := relB) h1 I1 rfl
      · exact h1.elim
    · exact h1.elim
  · exact h.elim
theorem td_neOwn (i : Nat) {x : Str} {e : Expr} {f : DS → R (D × DS)} {p pos : Pos} (hu : X.A.units + 64 < cLine) (he : ED X W G e f) (hN : X.N[i]? = some x := by rfl) (hv : Vis X.env.scope x := by first | exact Or.inl rfl | exact Or.inr (Or.inl rfl) | exact Or.inr (Or.inr rfl))
    (hd : (x == ("__debug__" : Str)) = false := by decide) (hcd : (x == ("__classdict__" : Str)) = false := by decide) : TD X W G (.Compare (.Name x p) [.NotEq] [e] pos) (toB (fEqOwn true i f)) := by
  obtain ⟨t, pt, r⟩ := he.ex
  refine ⟨_, pt_cmpR (op_neD hu) (pe_var hN hv hd hcd) pt (nomark _), fun b O H σ ds Q I h => ?_⟩
  have h : EPost X.K G b W relB H O σ Q ((fEqOwn true i f ds).bind fun p => match p.1 with
      | .bl b => .ok (b, p.2)
      | _ => .stuck) := h
  unfold fEqOwn at h
  split at h
  · rename_i c0 e0
    obtain ⟨p0, o, e1, hp, hb, h3, _⟩ := I.own e0
    have a1 : ∀ {α β γ : Type} (r : R α) (f : α → R β) (g : β → R γ), (r.bind f).bind g = r.bind fun x => (f x).bind g := fun r f g => by cases r <;> rfl
    rw [a1] at h
    refine ⟨_, e1, r b O H σ ds _ I (EPost.bind h fun d1 ds1 v1 H1 O1 w1 I1 x1 r1 h1 => ?_)⟩
    dsimp only at h1
    split at h1
    · rename_i xs e2
      obtain ⟨p1, o1, g1, g2, g3, g4, g5⟩ := I1.own e2
      rw [e1] at g1
      cases g1
      have rx := own_rep (c := .l xs) (d := .lst xs) rfl g4 g5
      simp only [if_true] at h1
      unfold dNe at h1
      split at h1
      · rename_i hq
        obtain ⟨a1, a2, a3⟩ := Rep.dp 60 _ _ rx hq.1
        obtain ⟨b1, b2, b3⟩ := Rep.dp 60 d1 v1 (Rep.mono SameR.hide_all _ _ r1) hq.2
        refine ⟨_, _, a1, b1, shaped_of a2 a3 (by decide), shaped_of b2 b3 (by decide), _, rfl, ?_⟩
        rw [eqv_eqB 60 60 _ d1 hq.1 hq.2]
        exact EPost.done (rel := relB) h1 I1 rfl
      · exact h1.elim
    · exact h1.elim
  · exact h.elim

/-! ### += -/
structure IpD (X : Cx) (op : Operator) (g : D → D → Option D) : Prop where
  ex : ∃ r, PIp X op r ∧ ∀ (O : Addr → Bool) (H : Hp) (x y : V) (d1 d2 d : D) (Q : VK), (∀ p, H p = none → O p = false) → Rep X.K (hide H O) d1 x → Rep X.K (hide H O) d2 y → g d1 d2 = some d →
    (∀ v H', Same H H' → Rep X.K (hide H' O) d v → Q v H') → r x y H Q
def dIadd (a b : D) : Option D := match a, b with
  | .int i, .int j => some (.int (i + j))
  | .str x, .str y => if x.length + y.length ≤ Ln then some (.str (x ++ y)) else none
  | _, _ => none
theorem ip_or {op : Operator} {r r' : TIp} (h : PIp X op r) (h' : PIp X op r') : PIp X op (fun x y H Q => r x y H Q ∨ r' x y H Q) := fun pins s σ H x y v u Q I rx ry q => q.elim (h pins s σ H x y v u Q I rx ry) (h' pins s σ H x y v u Q I rx ry)
theorem ip_str : PIp X .Add (fun x y H Q => ∃ i j, x = .str i ∧ y = .str j ∧ i.length + j.length ≤ sizeLine ∧ Q (.str (i ++ j)) H) := fun pins s σ H x y v u Q I rx ry h => iop_add_str pins s σ H x y v u Q I rx ry h
theorem ip_add : IpD X .Add dIadd := by
  refine ⟨_, ip_or L2.ip_add ip_str, fun O H x y d1 d2 d Q hO r1 r2 e k => ?_⟩
  unfold dIadd at e
  split at e
  · cases e
    exact .inl ⟨_, _, rep_int.mp r1, rep_int.mp r2, k _ H (Same.refl _) rep_i⟩
  · split at e
    · rename_i a c hl
      cases e
      unfold Rep at r1 r2
      obtain ⟨rfl, s1⟩ := r1
      obtain ⟨rfl, s2⟩ := r2
      exact .inr ⟨_, _, rfl, rfl, by rw [sv_length, sv_length, Ln_eq]; exact hl, k _ H (Same.refl _) (rep_str (sv_app a c) (okS_app s1 s2 hl))⟩
    · cases e
  · cases e
def sAug (i : Nat) (g : D → D → Option D) (f : DS → R (D × DS)) (ds : DS) : Out := match ds[i]? with
  | some (.val d) => toOut (f ds) fun d2 ds' => match g d d2 with
    | some d3 => .nx (ds'.set i (.val d3))
    | none => .stuck
  | _ => .stuck
theorem sd_aug (i : Nat) {op : Operator} {g : D → D → Option D} {x : Str} {e : Expr} {f : DS → R (D × DS)} {pos pos' : Pos} (ho : IpD X op g) (he : ED X W G e f) (hN : X.N.Nodup) (hp : i ∉ G.ps := by first | decide | exact of_decide_eq_true rfl) (hi : X.N[i]? = some x := by rfl) (hx : Loc X.env.scope x := by first | exact Or.inl rfl | exact Or.inr rfl)
    (hf : X.fn x = true ∨ X.env.scope.names.lookup x = some .local := by first | exact .inl rfl | exact .inr rfl) : SD X W G (.AugAssign (.Name x pos') op e pos) (sAug i g f) := by
  obtain ⟨t, pt, r⟩ := he.ex
  obtain ⟨ri, pi, rri⟩ := ho.ex
  refine ⟨tAug i t ri, ps_aug hN hi hx pt pi hf, fun b O H σ ds E I h => ?_⟩
  unfold sAug at h
  split at h
  · rename_i d e0
    obtain ⟨v, e1, rv⟩ := I.val e0
    refine ⟨v, e1, r b O H σ ds _ I (SPost.eval h fun d2 ds' y H' O' w1 I' x' q h' => ?_)⟩
    split at h'
    · rename_i d3 e3
      exact rri O' H' v y d d2 d3 _ (fun p np => fresh_O I' np) (Rep.mono x'.same _ _ rv) q e3 fun z H3 s rz => h' _ H3 O' ((I'.new' s).setVal hp rz) (Ext.new I' s)
    · exact h'.elim
  · exact h.elim

/-! ### an owned list changed by place -/
def ixD (n : Nat) (i : Int) : Option Nat := if 0 ≤ i then (if i < n then some i.toNat else none) else if -(n : Int) ≤ i then some (i + n).toNat else none
def sSetIx (i : Nat) (fk fv : DS → R (D × DS)) (ds : DS) : Out := toOut (fv ds) fun d ds1 => match ds1[i]? with
  | some (.own (.l _)) => toOut (fk ds1) fun k ds2 => match ds2[i]?, k with
    | some (.own (.l xs)), .int j => (match ixD xs.length j with
      | some m => .nx (ds2.set i (.own (.l (xs.set m d))))
      | none => .stuck)
    | _, _ => .stuck
  | _ => .stuck
theorem ixN_ixD (n : Nat) (i : Int) : ixN n i = ixD n i := rfl
theorem sd_setIx (i : Nat) {x : Str} {k e : Expr} {fk fv : DS → R (D × DS)} {p pos pos' : Pos} (hk : ED X W G k fk) (he : ED X W G e fv) (hN : X.N[i]? = some x := by rfl) (hv : Vis X.env.scope x := by first | exact Or.inl rfl | exact Or.inr (Or.inl rfl) | exact Or.inr (Or.inr rfl))
    (hd : (x == ("__debug__" : Str)) = false := by decide) (hcd : (x == ("__classdict__" : Str)) = false := by decide)
    (hs : swapsWithSole [.Subscript (.Name x p) k pos'] e pos.line X.env = pure false := by rfl) (hw : swappedStores [.Subscript (.Name x p) k pos'] e X.env = pure none := by rfl)
    (h1 : (assignEach [.Subscript (.Name x p) k pos'] X.env).map (·.2) = [assign (.Subscript (.Name x p) k pos') X.env] := by rfl)
    (ht : ∀ (v : Value), assign (.Subscript (.Name x p) k pos') X.env v = (do
      let ov ← holding [v] (eval (.Name x p) X.env)
      let iv ← holding [v, ov] (eval k X.env)
      standAt pos'
      holding [v, ov, iv] (setItem ov iv v)
      release [v, ov, iv] []) := by intros; rfl) : SD X W G (.Assign [.Subscript (.Name x p) k pos'] e pos) (sSetIx i fk fv) := by
  obtain ⟨tk, pk, rk⟩ := hk.ex
  obtain ⟨tv, pv', rv⟩ := he.ex
  refine ⟨_, ps_asg pv' (pg_sub (pe_var hN hv hd hcd) pk set_list ht) hs hw h1, fun b O H σ ds E I h => ?_⟩
  refine rv b O H σ ds _ I (SPost.eval h fun d ds1 v H1 O1 w1 I1 x1 q h1 => ?_)
  split at h1
  · rename_i xs0 e0
    obtain ⟨p0, o, e1, hp, hb, h3, _⟩ := I1.own e0
    refine ⟨_, e1, rk b O1 H1 σ ds1 _ I1 (SPost.eval h1 fun k ds2 y H2 O2 w2 I2 x2 q2 h2 => ?_)⟩
    split at h2
    · rename_i xs j e2
      obtain ⟨p1, o1, g1, g2, g3, g4, ys, rfl, g5, g6⟩ := I2.own e2
      rw [e1] at g1
      cases g1
      split at h2
      · rename_i m em
        refine ⟨p0, ys, j, m, rfl, rep_int.mp q2, g4, by rw [g5.length]; exact em, ?_⟩
        exact h2 σ _ O2 (I2.upd e2 e1 ⟨ys.set m v, rfl, g5.set m (Rep.mono x2.same _ _ q), by rw [List.length_set]; exact g6⟩) (Ext.upd I2 e2 e1)
      · exact h2.elim
    · exact h2.elim
  · exact h1.elim
end
end DL

/-! DP: names frozen; += by place; ranges, enumerate, zip; walks of dicts under a lock; dict.get -/
namespace DL
open PySem L2
section
variable {X : Cx} {W : WX} {G : Gx}
/-! ### a name read, what it owned is frozen -/
def vGetF (i : Nat) (ds : DS) : R (D × DS) := match ds[i]? with
  | some (.val d) => .ok (d, ds)
  | some (.own c) => lft (dOf c) (ds.set i .emp) |>.bind fun p => .ok (p.1, ds.set i (.val p.1))
  | _ => .stuck
theorem DI.frozen {K : PySem.W.Frag} {b : Bx} {O : Addr → Bool} {H : Hp} {σ : L2.St} {ds : DS} {i : Nat} {c : Ct} {d : D} (I : DI K G b O H σ ds) (e : ds[i]? = some (.own c)) (hi : i ∉ G.ps) (ed : dOf c = some d) :
    ∃ p, σ[i]? = some (some (.ref p)) ∧ DI K G b (subO O p) H σ (ds.set i (.val d)) ∧ Rep K (hide H (subO O p)) d (.ref p) := by
  obtain ⟨p, e1, w⟩ := I.own1 e hi
  obtain ⟨o, hp, hr⟩ := w.at_
  have r : Rep K (hide H (subO O p)) d (.ref p) := by
    refine rep_dOf (cm := G.cm) ed (hide_mk hp ?_) (CtR.mono (SameR.hide_weak fun a h => (of_subO h).1) hr)
    cases q : subO O p p with
    | false => rfl
    | true => exact absurd rfl (of_subO q).2
  refine ⟨p, e1, ?_, r⟩
  have J := ((I.forget hi).drop w).setVal hi r
  rw [show σ.set i (some (.ref p)) = σ from ?_] at J
  · simpa using J
  · apply List.ext_getElem?
    intro j
    by_cases h : j = i
    · subst h; rw [List.getElem?_set_self (List.getElem?_eq_some_iff.mp e1).1, e1]
    · rw [get_set_ne (Ne.symm h)]
theorem ed_varF (i : Nat) {x : Str} {pos : Pos} (hi : i ∉ G.ps := by first | decide | exact of_decide_eq_true rfl) (hN : X.N[i]? = some x := by rfl) (hv : Vis X.env.scope x := by first | exact Or.inl rfl | exact Or.inr (Or.inl rfl) | exact Or.inr (Or.inr rfl)) (hd : (x == ("__debug__" : Str)) = false := by decide)
    (hcd : (x == ("__classdict__" : Str)) = false := by decide) : ED X W G (.Name x pos) (vGetF i) := by
  refine ⟨tVar i, pe_var hN hv hd hcd, fun b O H σ ds Q I h => ?_⟩
  unfold vGetF at h
  split at h
  · rename_i d e
    obtain ⟨v, e1, r⟩ := I.val e
    exact ⟨v, e1, h.done I r⟩
  · rename_i c e
    cases ed : dOf c with
    | none => rw [ed] at h; exact h.elim
    | some d =>
      rw [ed] at h
      obtain ⟨p, e1, J, r⟩ := I.frozen e hi ed
      exact ⟨_, e1, h _ H (subO O p) J Ext.drop r⟩
  · exact h.elim

/-! ### xs[k] op= e of an owned list -/
def rGetL (K : PySem.W.Frag) : V → V → Hp → VK → Prop := fun x y H Q => ∃ a xs, ∃ (i : Nat), ∃ v, x = .ref a ∧ y = .int i ∧ SqL K H a xs ∧ xs[i]? = some v ∧ Q v H
theorem get_list : PGet X (rGetL X.K) := by
  intro pins s σ H o i ov iv Q I r1 r2 h
  obtain ⟨a, xs, n, v, rfl, rfl, hq, he, q⟩ := h
  cases r1
  obtain ⟨t, rfl⟩ := r2
  obtain ⟨its, rv, pl, hz⟩ := I.list hq
  obtain ⟨u, ue, ur⟩ := rv.get he
  have hn := (List.getElem?_eq_some_iff.mp he).1
  have hz' : xs.length ≤ sizeLine := hz
  rw [sizeLine_eq] at hz'
  exact wpAny_getItem_list pl.isList (by omega) (by omega) (by simpa using ue) ⟨v, H, I, ur, q⟩
def sAugIx (i m : Nat) (g : D → D → Option D) (fe : DS → R (D × DS)) (ds : DS) : Out := match ds[i]? with
  | some (.own (.l xs)) => (match xs[m]? with
      | some d0 => toOut (fe ds) fun d1 ds2 => match g d0 d1, ds2[i]? with
        | some d, some (.own (.l ys)) => if m < ys.length then .nx (ds2.set i (.own (.l (ys.set m d)))) else .stuck
        | _, _ => .stuck
      | none => .stuck)
  | _ => .stuck
theorem sd_augIx (i m : Nat) {op : Operator} {g : D → D → Option D} {x : Str} {e : Expr} {fe : DS → R (D × DS)} {p pk pos tpos : Pos} {j : Nat} (ho : IpD X op g) (he : ED X W G e fe) (hN : X.N[i]? = some x := by rfl) (hv : Vis X.env.scope x := by first | exact Or.inl rfl | exact Or.inr (Or.inl rfl) | exact Or.inr (Or.inr rfl))
    (hd : (x == ("__debug__" : Str)) = false := by decide) (hcd : (x == ("__classdict__" : Str)) = false := by decide) : SD X W G (.AugAssign (.Subscript (.Name x p) (.Constant (.int (m : Nat)) j pk) tpos) op e pos) (sAugIx i m g fe) := by
  obtain ⟨te, pe, re⟩ := he.ex
  obtain ⟨ri, pi, rri⟩ := ho.ex
  refine ⟨_, ps_augS (pe_var hN hv hd hcd) pe_int get_list pe pi set_list, fun b O H σ ds E I h => ?_⟩
  unfold sAugIx at h
  split at h
  · rename_i xs e0
    obtain ⟨p0, o, e1, hp, hb, h3, zs, rfl, g5, g6⟩ := I.own e0
    split at h
    · rename_i d0 ed0
      obtain ⟨v0, ev0, r0⟩ := g5.get ed0
      refine ⟨_, e1, ⟨p0, zs, m, v0, rfl, rfl, SqL.of h3, ev0, ?_⟩⟩
      refine re b O H σ ds _ I (SPost.eval h fun d1 ds2 y H' O' w1 I' x' q h' => ?_)
      split at h'
      · rename_i d ys eg e2
        obtain ⟨p1, o1, g1, g2, g3, g4, ws, rfl, g7, g8⟩ := I'.own e2
        rw [e1] at g1
        cases g1
        split at h'
        · rename_i hm
          refine rri O' H' v0 y d0 d1 d _ (fun p np => fresh_O I' np) (Rep.mono x'.same _ _ r0) q eg fun z H3 s rz => ?_
          have I3 := I'.new' s
          have hm' : m < ws.length := by rw [g7.length]; exact hm
          refine ⟨p0, ws, m, m, rfl, rfl, s _ _ g4, ?_, ?_⟩
          · show ixN ws.length (m : Int) = some m
            rw [ixN_ixD]
            unfold ixD
            rw [if_pos (by omega), if_pos (by omega)]
            simp
          · exact h' σ _ O' (I3.upd e2 e1 ⟨ws.set m z, rfl, (RepL.mono (SameR.of (hide_same s O')) _ _ g7).set m rz, by rw [List.length_set]; exact g8⟩) ((Ext.new I' s).trans (Ext.upd I3 e2 e1))
        · exact h'.elim
      · exact h'.elim
    · exact h.elim
  · exact h.elim
end
end DL

/-! DQ: ranges, enumerate, zip; walks of dicts under a lock -/
namespace DL
open PySem L2
section
variable {X : Cx} {W : WX} {G : Gx}
/-! ### range -/
def rngD (lo : Int) (n : Nat) : List D := (List.range n).map fun (k : Nat) => D.int (lo + (k : Int))
theorem itd_rng {K : PySem.W.Frag} {h1 : Hp} {lo : Int} {n : Nat} (hn : n ≤ Ln) : ItD K h1 (rngD lo n) (Itr lo n) := by
  have hl : (rngD lo n).length = n := by simp [rngD]
  refine ⟨by rw [hl]; exact hn, fun H2 O2 s hO i hi => ?_, fun H2 O2 s => by show n ≤ _; rw [hl]; exact Nat.le_refl _⟩
  rw [hl] at hi
  refine ⟨hi, fun x H3 q => ?_⟩
  obtain ⟨rfl, rfl⟩ := q
  refine ⟨Same.refl _, fun d hd => ?_⟩
  unfold rngD at hd
  rw [List.getElem?_map, List.getElem?_range hi] at hd
  cases hd
  exact rep_i
def iRng1D (f : DS → R (List D × DS)) (ds : DS) : R (List D × DS) := (f ds).bind fun p => match p.1 with
  | [.int j] => if -(2 ^ 62) ≤ j ∧ j ≤ Ln then .ok (rngD 0 j.toNat, p.2) else .stuck
  | _ => .stuck
def iRng2D (f : DS → R (List D × DS)) (ds : DS) : R (List D × DS) := (f ds).bind fun p => match p.1 with
  | [.int i, .int j] => if (-(2 ^ 62) ≤ i ∧ i < 2 ^ 62 ∧ -(2 ^ 62) ≤ j ∧ j < 2 ^ 62) ∧ j - i ≤ Ln then .ok (rngD i (j - i).toNat, p.2) else .stuck
  | _ => .stuck
theorem id_range1 {tg a : Expr} {f : DS → R (List D × DS)} {p pos : Pos} (h : AD X W G [a] f) (hm : X.mg "range" = none) (hg : Gl X "range" := by rfl) (hs : starEach [a] X.env = [(false, eval a X.env)] := by rfl) : ID X W G tg (.Call (.Name "range" p) [a] [] pos) (iRng1D f) := by
  obtain ⟨t, pt, r⟩ := h.ex
  refine ⟨_, pi_range1 hg hm pt hs, fun b O H σ ds Rr I h => r b O H σ ds _ I (EPost.bind h fun d1 ds1 v1 H1 O1 w1 I1 x1 r1 h1 => ?_)⟩
  dsimp only at h1
  split at h1
  · rename_i j
    split at h1
    · rename_i hj
      obtain ⟨x, rfl, rx⟩ := r1.one_inv
      refine ⟨j, by rw [rep_int.mp rx], hj.1, Int.lt_of_le_of_lt hj.2 (by decide), h1 _ H1 O1 I1 Ext.refl (itd_rng ?_)⟩
      have := hj.2
      omega
    · exact h1.elim
  · exact h1.elim
theorem id_range2 {tg a c : Expr} {f : DS → R (List D × DS)} {p pos : Pos} (h : AD X W G [a, c] f) (hm : X.mg "range" = none) (hg : Gl X "range" := by rfl) (hs : starEach [a, c] X.env = [(false, eval a X.env), (false, eval c X.env)] := by rfl) (hs2 : starEach [c] X.env = [(false, eval c X.env)] := by rfl) : ID X W G tg (.Call (.Name "range" p) [a, c] [] pos) (iRng2D f) := by
  obtain ⟨t, pt, r⟩ := h.ex
  refine ⟨_, pi_range2 hg hm pt hs hs2, fun b O H σ ds Rr I h => r b O H σ ds _ I (EPost.bind h fun d1 ds1 v1 H1 O1 w1 I1 x1 r1 h1 => ?_)⟩
  dsimp only at h1
  split at h1
  · rename_i i j
    split at h1
    · rename_i hj
      obtain ⟨x, y, rfl, rx, ry⟩ := r1.two_inv
      refine ⟨i, j, by rw [rep_int.mp rx, rep_int.mp ry], hj.1, h1 _ H1 O1 I1 Ext.refl (itd_rng ?_)⟩
      have := hj.2
      omega
    · exact h1.elim
  · exact h1.elim

/-! ### enumerate, zip -/
def enumD : Nat → List D → List D
  | _, [] => []
  | n, d :: r => .tup [.int (n : Nat), d] :: enumD (n + 1) r
theorem enumD_len : ∀ (l : List D) (n : Nat), (enumD n l).length = l.length
  | [], _ => rfl
  | d :: r, n => by simp [enumD, enumD_len r (n + 1)]
theorem enumD_get : ∀ (l : List D) (n i : Nat) (x : D), l[i]? = some x → (enumD n l)[i]? = some (.tup [.int ((n + i : Nat) : Int), x])
  | [], _, i, _, h => by simp at h
  | d :: r, n, 0, x, h => by simp at h; subst h; simp [enumD]
  | d :: r, n, i + 1, x, h => by
    have := enumD_get r (n + 1) i x (by simpa using h)
    rw [show n + 1 + i = n + (i + 1) by omega] at this
    simpa [enumD] using this
def iEnumD (f : DS → R (List D × DS)) (ds : DS) : R (List D × DS) := (f ds).bind fun p => match p.1 with
  | [.lst l] => .ok (enumD 0 l, p.2)
  | _ => .stuck
theorem rep_pair {K : PySem.W.Frag} {H : Hp} {T : Addr} {a c : D} {x y : V} (h : H T = some (.tup [x, y])) (ra : Rep K H a x) (rc : Rep K H c y) : Rep K H (.tup [a, c]) (.ref T) := by
  unfold Rep
  exact ⟨T, _, rfl, h, RepL.cons ra (RepL.cons rc RepL.nil), by show 2 ≤ Ln; decide⟩
theorem id_enum {e : Expr} {f : DS → R (List D × DS)} {p pos tpos : Pos} {elts : List Expr} {kk : Nat} (h : AD X W G [e] f) (hm : X.mg "enumerate" = none) (hg : Gl X "enumerate" := by rfl) (hs : starEach [e] X.env = [(false, eval e X.env)] := by rfl) : ID X W G (.Tuple elts kk tpos) (.Call (.Name "enumerate" p) [e] [] pos) (iEnumD f) := by
  obtain ⟨t, pt, r⟩ := h.ex
  refine ⟨_, pi_enum hg hm pt hs, fun b O H σ ds Rr I h => r b O H σ ds _ I (EPost.bind h fun d1 ds1 v1 H1 O1 w1 I1 x1 r1 h1 => ?_)⟩
  dsimp only at h1
  split at h1
  · rename_i l
    obtain ⟨x, rfl, rx⟩ := r1.one_inv
    unfold Rep at rx
    obtain ⟨a, xs, rfl, g1, g2, g3⟩ := rx
    refine ⟨a, xs, rfl, SqL.of (hide_of g1).1, h1 _ H1 O1 I1 Ext.refl ?_⟩
    have there : ∀ (H2 : Hp) (O2 : Addr → Bool), Same (hide H1 O1) (hide H2 O2) → H2 a = some (.lst xs) := fun H2 O2 s => (hide_of (s _ _ g1)).1
    refine ⟨by rw [enumD_len]; exact g3, fun H2 O2 s hO i hi => ?_, fun H2 O2 s => ⟨xs, SqL.of (there H2 O2 s), by rw [enumD_len, g2.length]; exact Nat.le_refl _⟩⟩
    rw [enumD_len] at hi
    obtain ⟨y, ey, ry⟩ := g2.get (List.getElem?_eq_getElem hi)
    refine ⟨⟨xs, y, SqL.of (there H2 O2 s), ey⟩, fun x H3 q => ?_⟩
    obtain ⟨T, z, rfl, nT, rfl, hz⟩ := q
    have ez := hz xs (SqL.of (there H2 O2 s))
    rw [ey] at ez
    cases ez
    have s3 := same_upd (o := .tup [.int (i : Nat), y]) nT
    refine ⟨s3, fun d hd => ?_⟩
    rw [enumD_get l 0 i _ (List.getElem?_eq_getElem hi)] at hd
    cases hd
    refine rep_pair (hide_mk upd_same (hO T nT)) (rep_int.mpr (by simp)) (Rep.mono (SameR.of (s.trans (hide_same s3 O2))) _ _ ry)
  · exact h1.elim
def zipD : List D → List D → List D
  | a :: r, c :: s => .tup [a, c] :: zipD r s
  | _, _ => []
theorem zipD_get : ∀ (l m : List D) (i : Nat) (x y : D), l[i]? = some x → m[i]? = some y → (zipD l m)[i]? = some (.tup [x, y])
  | [], _, i, _, _, h, _ => by simp at h
  | _ :: _, [], i, _, _, _, h => by simp at h
  | a :: r, c :: s, 0, x, y, h, k => by simp at h k; subst h; subst k; simp [zipD]
  | a :: r, c :: s, i + 1, x, y, h, k => by simpa [zipD] using zipD_get r s i x y (by simpa using h) (by simpa using k)
theorem zipD_len : ∀ (l m : List D), (zipD l m).length = min l.length m.length
  | [], _ => by simp [zipD]
  | _ :: _, [] => by simp [zipD]
  | a :: r, c :: s => by simp [zipD, zipD_len r s]
def iZipD (f : DS → R (List D × DS)) (ds : DS) : R (List D × DS) := (f ds).bind fun p => match p.1 with
  | [.lst l, .lst m] => .ok (zipD l m, p.2)
  | [.tup l, .tup m] => .ok (zipD l m, p.2)
  | _ => .stuck
theorem id_zip {e e2 : Expr} {f : DS → R (List D × DS)} {p pos tpos : Pos} {elts : List Expr} {kk : Nat} (h : AD X W G [e, e2] f) (hm : X.mg "zip" = none) (hg : Gl X "zip" := by rfl)
    (hs : starEach [e, e2] X.env = (false, eval e X.env) :: starEach [e2] X.env := by rfl) (hpl : (backTo pos (starEach [e2] X.env)).any (·.1) = false := by rfl) : ID X W G (.Tuple elts kk tpos) (.Call (.Name "zip" p) [e, e2] [] pos) (iZipD f) := by
  obtain ⟨t, pt, r⟩ := h.ex
  refine ⟨_, RZ.pi_zipA hg hm pt hs hpl, fun b O H σ ds Rr I h => r b O H σ ds _ I (EPost.bind h fun d1 ds1 v1 H1 O1 w1 I1 x1 r1 h1 => ?_)⟩
  dsimp only at h1
  split at h1
  · rename_i l m
    obtain ⟨x, x', rfl, rx, rx'⟩ := r1.two_inv
    unfold Rep at rx rx'
    obtain ⟨a, xs, rfl, g1, g2, g3⟩ := rx
    obtain ⟨a', ys, rfl, k1, k2, k3⟩ := rx'
    refine ⟨a, a', xs, ys, rfl, .inl ⟨SqL.of (hide_of g1).1, SqL.of (hide_of k1).1, h1 _ H1 O1 I1 Ext.refl ?_⟩⟩
    have th : ∀ (H2 : Hp) (O2 : Addr → Bool), Same (hide H1 O1) (hide H2 O2) → SqL X.K H2 a xs := fun H2 O2 s => SqL.of (hide_of (s _ _ g1)).1
    have th' : ∀ (H2 : Hp) (O2 : Addr → Bool), Same (hide H1 O1) (hide H2 O2) → SqL X.K H2 a' ys := fun H2 O2 s => SqL.of (hide_of (s _ _ k1)).1
    have hl := zipD_len l m
    refine ⟨by omega, fun H2 O2 s hO i hi => ?_, fun H2 O2 s => ⟨xs, ys, th H2 O2 s, th' H2 O2 s, by rw [g2.length, k2.length]; omega⟩⟩
    obtain ⟨y, ey, ry⟩ := g2.get (List.getElem?_eq_getElem (show i < l.length by omega))
    obtain ⟨y', ey', ry'⟩ := k2.get (List.getElem?_eq_getElem (show i < m.length by omega))
    refine ⟨⟨xs, ys, y, y', th H2 O2 s, th' H2 O2 s, ey, ey'⟩, fun x H3 q => ?_⟩
    obtain ⟨T, z, z', rfl, nT, rfl, hz, hz'⟩ := q
    have ez := hz xs (th H2 O2 s)
    have ez' := hz' ys (th' H2 O2 s)
    rw [ey] at ez; cases ez
    rw [ey'] at ez'; cases ez'
    have s3 := same_upd (o := .tup [y, y']) nT
    refine ⟨s3, fun d hd => ?_⟩
    rw [zipD_get l m i _ _ (List.getElem?_eq_getElem (show i < l.length by omega)) (List.getElem?_eq_getElem (show i < m.length by omega))] at hd
    obtain rfl := Option.some.inj hd
    have sr := SameR.of (s.trans (hide_same s3 O2))
    exact rep_pair (hide_mk upd_same (hO T nT)) (Rep.mono sr _ _ ry) (Rep.mono sr _ _ ry')
  · rename_i l m
    obtain ⟨x, x', rfl, rx, rx'⟩ := r1.two_inv
    unfold Rep at rx rx'
    obtain ⟨a, xs, rfl, g1, g2, g3⟩ := rx
    obtain ⟨a', ys, rfl, k1, k2, k3⟩ := rx'
    refine ⟨a, a', xs, ys, rfl, .inr ⟨SqT.of (hide_of g1).1, SqT.of (hide_of k1).1, h1 _ H1 O1 I1 Ext.refl ?_⟩⟩
    have th : ∀ (H2 : Hp) (O2 : Addr → Bool), Same (hide H1 O1) (hide H2 O2) → SqT X.K H2 a xs := fun H2 O2 s => SqT.of (hide_of (s _ _ g1)).1
    have th' : ∀ (H2 : Hp) (O2 : Addr → Bool), Same (hide H1 O1) (hide H2 O2) → SqT X.K H2 a' ys := fun H2 O2 s => SqT.of (hide_of (s _ _ k1)).1
    have hl := zipD_len l m
    refine ⟨by omega, fun H2 O2 s hO i hi => ?_, fun H2 O2 s => ⟨xs, ys, th H2 O2 s, th' H2 O2 s, by rw [g2.length, k2.length]; omega⟩⟩
    obtain ⟨y, ey, ry⟩ := g2.get (List.getElem?_eq_getElem (show i < l.length by omega))
    obtain ⟨y', ey', ry'⟩ := k2.get (List.getElem?_eq_getElem (show i < m.length by omega))
    refine ⟨⟨xs, ys, y, y', th H2 O2 s, th' H2 O2 s, ey, ey'⟩, fun x H3 q => ?_⟩
    obtain ⟨T, z, z', rfl, nT, rfl, hz, hz'⟩ := q
    have ez := hz xs (th H2 O2 s)
    have ez' := hz' ys (th' H2 O2 s)
    rw [ey] at ez; cases ez
    rw [ey'] at ez'; cases ez'
    have s3 := same_upd (o := .tup [y, y']) nT
    refine ⟨s3, fun d hd => ?_⟩
    rw [zipD_get l m i _ _ (List.getElem?_eq_getElem (show i < l.length by omega)) (List.getElem?_eq_getElem (show i < m.length by omega))] at hd
    obtain rfl := Option.some.inj hd
    have sr := SameR.of (s.trans (hide_same s3 O2))
    exact rep_pair (hide_mk upd_same (hO T nT)) (Rep.mono sr _ _ ry) (Rep.mono sr _ _ ry')
  · exact h1.elim

/-! ### locks -/
def Lkd (i : Nat) (σ : L2.St) (H : Hp) : Prop := ∃ d od u, σ[i]? = some (some (.ref d)) ∧ H d = some (.frz od u)
section
variable {K : PySem.W.Frag} {b : Bx} {O : Addr → Bool} {H : Hp} {σ : L2.St} {ds : DS}
theorem samer_lock {d : Addr} {od : Obj} {u : HO} (hd : hide H O d = some u) (nl : ∀ xs, u ≠ .lst xs) (nt : ∀ xs, u ≠ .tup xs) (nf : NF u) : SameR (hide H O) (hide (upd H d (.frz od u)) O) := by
  obtain ⟨h1, h2⟩ := hide_of hd
  have at_ : hide (upd H d (.frz od u)) O d = some (.frz od u) := hide_mk upd_same h2
  have off : ∀ {a o}, a ≠ d → hide H O a = some o → hide (upd H d (.frz od u)) O a = some o := fun {a o} ne e => by
    obtain ⟨e1, e2⟩ := hide_of e
    exact hide_mk (by rw [upd_ne ne]; exact e1) e2
  refine ⟨fun a w n q => ?_, fun a xs q => ?_, fun a xs q => ?_⟩
  · by_cases e : a = d
    · subst e
      rcases q with q | ⟨o, q⟩
      · rw [hd] at q; cases q; exact .inr ⟨od, at_⟩
      · rw [hd] at q; exact absurd (Option.some.inj q) (nf _ _)
    · rcases q with q | ⟨o, q⟩
      · exact .inl (off e q)
      · exact .inr ⟨o, off e q⟩
  · by_cases e : a = d
    · subst e; rw [hd] at q; exact absurd (Option.some.inj q) (nl _)
    · exact off e q
  · by_cases e : a = d
    · subst e; rw [hd] at q; exact absurd (Option.some.inj q) (nt _)
    · exact off e q
theorem samer_unlock {d : Addr} {od : Obj} {u : HO} (hd : hide H O d = some (.frz od u)) : SameR (hide H O) (hide (upd H d u) O) := by
  obtain ⟨h1, h2⟩ := hide_of hd
  have at_ : hide (upd H d u) O d = some u := hide_mk upd_same h2
  have off : ∀ {a o}, a ≠ d → hide H O a = some o → hide (upd H d u) O a = some o := fun {a o} ne e => by
    obtain ⟨e1, e2⟩ := hide_of e
    exact hide_mk (by rw [upd_ne ne]; exact e1) e2
  refine ⟨fun a w n q => ?_, fun a xs q => ?_, fun a xs q => ?_⟩
  · by_cases e : a = d
    · subst e
      rcases q with q | ⟨o, q⟩
      · rw [hd] at q; exact absurd (Option.some.inj q).symm (n _ _)
      · rw [hd] at q
        cases q
        exact .inl at_
    · rcases q with q | ⟨o, q⟩
      · exact .inl (off e q)
      · exact .inr ⟨o, off e q⟩
  · by_cases e : a = d
    · subst e; rw [hd] at q; cases q
    · exact off e q
  · by_cases e : a = d
    · subst e; rw [hd] at q; cases q
    · exact off e q
/-- what is not owned is another object of the same reading now -/
theorem DI.turn {d : Addr} {o' : HO} (I : DI K G b O H σ ds) (ho : O d = false) (s : SameR (hide H O) (hide (L2.upd H d o') O)) (hd : H d ≠ none) : DI K G b O (L2.upd H d o') σ ds := by
  refine ⟨I.len, fun i x h => (I.slot i x h).mono s fun a o ha _ e => ?_, I.sep, I.sub, I.pin, I.pidx, fun a ha e => ?_, I.new, fun a ha => ?_⟩
  · rw [upd_ne fun z => by rw [z, ho] at ha; cases ha]; exact e
  · by_cases z : a = d
    · rw [z, ho] at ha; cases ha
    · rw [upd_ne z] at e; exact I.trk a ha e
  · by_cases z : a = d
    · rw [z, upd_same] at ha; cases ha
    · rw [upd_ne z] at ha; exact I.ent a ha
theorem Ext.unlock {d : Addr} {od : Obj} {u : HO} {H' : Hp} {O' : Addr → Bool} (hd : hide H O d = some u) (nf : NF u) (hb : b.B d = false) (x : Ext b (L2.upd H d (.frz od u)) O H' O') : H' d = some (.frz od u) ∧ O' d = false ∧ Ext b H O (L2.upd H' d u) O' := by
  obtain ⟨h1, h2⟩ := hide_of hd
  obtain ⟨e1, e2⟩ := hide_of (x.sm d _ (hide_mk upd_same h2))
  refine ⟨e1, e2, fun a ha => ?_, fun a o q => ?_, fun a ha => ?_, fun a o w q => ?_⟩
  · have ne : a ≠ d := fun z => by rw [z, hb] at ha; cases ha
    rw [upd_ne ne, x.keep a ha, upd_ne ne]
  · by_cases z : a = d
    · subst z; rw [hd] at q; cases q; exact hide_mk upd_same e2
    · obtain ⟨q1, q2⟩ := hide_of q
      obtain ⟨q3, q4⟩ := hide_of (x.sm a o (hide_mk (by rw [upd_ne z]; exact q1) q2))
      exact hide_mk (by rw [upd_ne z]; exact q3) q4
  · by_cases z : a = d
    · subst z; rw [upd_same] at ha; cases ha
    · rw [upd_ne z] at ha
      have := x.non a ha
      rwa [upd_ne z] at this
  · have z : a ≠ d := fun z => by subst z; rw [h1] at q; exact nf _ _ (Option.some.inj q)
    rw [upd_ne z]
    exact x.fz a o w (by rw [upd_ne z]; exact q)
theorem nB {d : Addr} {u : HO} (I : DI K G b O H σ ds) (hd : hide H O d = some u) : b.B d = false := by
  cases e : b.B d with
  | false => rfl
  | true => have := I.sub d e; rw [(hide_of hd).2] at this; cases this
end
def quietO (o : Out) : Out := match o with
  | .exc _ _ => .stuck
  | o => o
def lockS (i : Nat) (F : DS → Out) (ds : DS) : Out := match ds[i]? with
  | some (.val (.dic _ _)) => quietO (F ds)
  | _ => .stuck
def lockE (i : Nat) {α : Type} (F : DS → R (α × DS)) (ds : DS) : R (α × DS) := match ds[i]? with
  | some (.val (.dic _ _)) => quiet (F ds)
  | _ => .stuck
/-- a dict, locked already or to be locked -/
theorem dic_rd {K : PySem.W.Frag} {H : Hp} {t : Nat} {kvs : List (D × D)} {v : V} (h : Rep K H (.dic t kvs) v) : ∃ a, v = .ref a ∧ ((∃ o u, H a = some (.frz o u)) ∨ ∃ u, H a = some u ∧ Mut (some u) ∧ NF u ∧ (∀ xs, u ≠ .lst xs) ∧ ∀ xs, u ≠ .tup xs) := by
  unfold Rep at h
  obtain ⟨a, rfl, _, h⟩ := h
  refine ⟨a, rfl, ?_⟩
  rcases h with ⟨_, ks, q | ⟨o, q⟩, _⟩ | ⟨_, ks, q | ⟨o, q⟩, _⟩
  · exact .inr ⟨_, q, trivial, nf_dK, (fun _ z => by cases z), (fun _ z => by cases z)⟩
  · exact .inl ⟨o, _, q⟩
  · exact .inr ⟨_, q, trivial, nf_dT, (fun _ z => by cases z), (fun _ z => by cases z)⟩
  · exact .inl ⟨o, _, q⟩
theorem ps_or {st : Stmt} {t t' : TS} (h : PS X st t) (h' : PS X st t') : PS X st (fun E σ H => t E σ H ∨ t' E σ H) := ⟨fun pins s σ H D I q => q.elim (h.run pins s σ H D I) (h'.run pins s σ H D I)⟩
theorem pe_or' {e : Expr} {t t' : TE} (h : PE X e t) (h' : PE X e t') : PE X e (fun σ H Q => t σ H Q ∨ t' σ H Q) := ⟨fun pins s σ H D I q => q.elim (h.run pins s σ H D I) (h'.run pins s σ H D I)⟩
theorem sd_lock (i : Nat) {st : Stmt} {t : TS} {F : DS → Out} (p : PS X st t) (r : ∀ b O H σ ds E, Lkd i σ H → DI X.K G b O H σ ds → SPost X.K G b W H O E (F ds) → t E σ H) : SD X W G st (lockS i F) := by
  refine ⟨_, ps_or p (ps_lock p), fun b O H σ ds E I h => ?_⟩
  unfold lockS at h
  split at h
  · rename_i tt kvs e0
    obtain ⟨v, e1, rv⟩ := I.val e0
    obtain ⟨a, rfl, hc⟩ := dic_rd rv
    rcases hc with ⟨o, u, q⟩ | ⟨u, q, mu, nf, nl, nt⟩
    · refine .inl (r b O H σ ds E ⟨a, o, u, e1, (hide_of q).1⟩ I ?_)
      match F ds, h with
      | .nx _, h => exact h
      | .bk _, h => exact h
      | .ct _, h => exact h
      | .rt _ _, h => exact h
      | .ro _ _, h => exact h
    · refine .inr ⟨a, u, (hide_of q).1, mu, fun od => ?_⟩
      have s := samer_lock (od := od) q nl nt nf
      have I1 := I.turn (hide_of q).2 s (by rw [(hide_of q).1]; simp)
      refine r b O _ σ ds _ ⟨a, od, u, e1, upd_same⟩ I1 ?_
      have out : ∀ {H' O' σ' ds'}, DI X.K G b O' H' σ' ds' → Ext b (upd H a (.frz od u)) O H' O' → H' a = some (.frz od u) ∧ SameR (hide H' O') (hide (upd H' a u) O') ∧ DI X.K G b O' (upd H' a u) σ' ds' ∧ Ext b H O (upd H' a u) O' := fun {H' O' σ' ds'} I' x => by
        obtain ⟨g1, g2, g3⟩ := Ext.unlock q nf (nB I q) x
        have s' := samer_unlock (hide_mk g1 g2)
        exact ⟨g1, s', I'.turn g2 s' (by rw [g1]; simp), g3⟩
      match F ds, h with
      | .nx _, h => exact fun σ' H' O' I' x => let ⟨g1, _, g2, g3⟩ := out I' x; ⟨g1, h σ' _ O' g2 g3⟩
      | .bk _, h => exact fun σ' H' O' I' x => let ⟨g1, _, g2, g3⟩ := out I' x; ⟨g1, h σ' _ O' g2 g3⟩
      | .ct _, h => exact fun σ' H' O' I' x => let ⟨g1, _, g2, g3⟩ := out I' x; ⟨g1, h σ' _ O' g2 g3⟩
      | .rt _ _, h => exact fun v σ' H' O' I' x rr => let ⟨g1, s', g2, g3⟩ := out I' x; ⟨g1, h v σ' _ O' g2 g3 (Rep.mono s' _ _ rr)⟩
      | .ro _ _, h =>
        intro p σ' H' O' I' x w
        obtain ⟨g1, s', g2, g3⟩ := out I' x
        refine ⟨g1, h p σ' _ O' g2 g3 ⟨w.o, w.nb, w.no, ?_, w.nw⟩⟩
        obtain ⟨o, w1, w2⟩ := w.at_
        refine ⟨o, ?_, w2.mono s'⟩
        rw [upd_ne]
        · exact w1
        · intro z
          have := (Ext.unlock q nf (nB I q) x).2.1
          rw [← z, w.o] at this
          cases this
  · exact h.elim
theorem eo_lock (i : Nat) {e : Expr} {t : TE} {F : DS → R (Ct × DS)} (p : PE X e t) (r : ∀ b O H σ ds Q, Lkd i σ H → DI X.K G b O H σ ds → OPost X.K G b W H O σ Q (F ds) → t σ H Q) : EO X W G e (lockE i F) := by
  refine ⟨_, pe_or' p (pe_lock p), fun b O H σ ds Q I h => ?_⟩
  unfold lockE at h
  split at h
  · rename_i tt kvs e0
    obtain ⟨v, e1, rv⟩ := I.val e0
    obtain ⟨a, rfl, hc⟩ := dic_rd rv
    rcases hc with ⟨o, u, q⟩ | ⟨u, q, mu, nf, nl, nt⟩
    · refine .inl (r b O H σ ds Q ⟨a, o, u, e1, (hide_of q).1⟩ I ?_)
      match F ds, h with
      | .ok _, h => exact h
    · refine .inr ⟨a, u, (hide_of q).1, mu, fun od => ?_⟩
      have s := samer_lock (od := od) q nl nt nf
      have I1 := I.turn (hide_of q).2 s (by rw [(hide_of q).1]; simp)
      refine r b O _ σ ds _ ⟨a, od, u, e1, upd_same⟩ I1 ?_
      match F ds, h with
      | .ok (c, ds'), h =>
        intro p H' O' I' x w
        obtain ⟨g1, g2, g3⟩ := Ext.unlock q nf (nB I q) x
        have s' := samer_unlock (hide_mk g1 g2)
        refine ⟨g1, h p _ O' (I'.turn g2 s' (by rw [g1]; simp)) g3 ⟨w.o, w.nb, w.no, ?_, w.nw⟩⟩
        obtain ⟨o, w1, w2⟩ := w.at_
        refine ⟨o, ?_, w2.mono s'⟩
        rw [upd_ne]
        · exact w1
        · intro z
          rw [← z, w.o] at g2
          cases g2
  · exact h.elim

/-! ### the keys, the pairs -/
def okKk : D → Bool
  | .int _ => true
  | .str s => okS s
  | _ => false
theorem rep_keyD {K : PySem.W.Frag} {H : Hp} {q : Key} (h : okKk (keyD q) = true) : Rep K H (keyD q) (kV q) := by
  cases q with
  | inl i => exact rep_i
  | inr s => exact rep_str (sv_of s).symm h
theorem RepK.getI {K : PySem.W.Frag} {H : Hp} : ∀ {kvs : List (D × D)} {ks : List (Key × V)}, RepK K H kvs ks → ∀ {i : Nat} {q : Key} {v : V}, ks[i]? = some (q, v) → ∃ d, kvs[i]? = some (keyD q, d) ∧ Rep K H d v
  | [], ks, h, i, q, v, e => by unfold RepK at h; subst h; simp at e
  | (k, d) :: r, ks, h, i, q, v, e => by
    unfold RepK at h
    obtain ⟨q0, x, s, rfl, rfl, h1, h2⟩ := h
    cases i with
    | zero => simp at e; obtain ⟨rfl, rfl⟩ := e; exact ⟨d, rfl, h1⟩
    | succ i => obtain ⟨d', e1, e2⟩ := RepK.getI h2 (i := i) (by simpa using e); exact ⟨d', by simpa using e1, e2⟩
def fKeys (i : Nat) (ds : DS) : R (List D × DS) := match ds[i]? with
  | some (.val (.dic 0 kvs)) => if kvs.all (fun kv => okKk kv.1) = true then .ok (kvs.map (·.1), ds) else .stuck
  | _ => .stuck
theorem keys_run (i : Nat) : ∀ (b : Bx) (O : Addr → Bool) (H : Hp) (σ : L2.St) (ds : DS) (Rr : It → Hp → Prop), Lkd i σ H → DI X.K G b O H σ ds → EPost X.K G b W (ItD X.K) H O σ Rr (fKeys i ds) → iKeys (tVar i) σ H Rr := by
  intro b O H σ ds Rr ⟨d, od, u, e1, hd⟩ I h
  unfold fKeys at h
  split at h
  · rename_i kvs e0
    split at h
    · rename_i hk
      obtain ⟨v, e2, rv⟩ := I.val e0
      rw [e1] at e2
      cases e2
      unfold Rep at rv
      obtain ⟨a, ea, hl, rv⟩ := rv
      cases ea
      rcases rv with ⟨_, ks, q, rk⟩ | ⟨z, _⟩
      · have q2 : hide H O d = some (.frz od (.dK ks)) := by
          rcases q with q | ⟨o, q⟩
          · have := (hide_of q).1; rw [hd] at this; cases this
          · have := (hide_of q).1; rw [hd] at this; cases this; exact q
        refine ⟨_, e1, d, od, rfl, .inl ⟨ks, (hide_of q2).1, h _ H O I Ext.refl ?_⟩⟩
        have kl := rk.length
        refine ⟨by rw [List.length_map]; exact hl, fun H2 O2 s hO j hj => ?_, fun H2 O2 s => ⟨(hide_of (s _ _ q2)).1, by rw [List.length_map, kl]; exact Nat.le_refl _⟩⟩
        rw [List.length_map] at hj
        refine ⟨⟨(hide_of (s _ _ q2)).1, by omega⟩, fun x H3 y => ?_⟩
        obtain ⟨rfl, k, v, ek, rfl⟩ := y
        refine ⟨Same.refl _, fun dd hdd => ?_⟩
        obtain ⟨d2, e3, _⟩ := rk.getI ek
        rw [List.getElem?_map, e3] at hdd
        cases hdd
        exact rep_keyD (List.all_eq_true.mp hk _ (List.mem_of_getElem? e3))
      · cases z
    · exact h.elim
  · exact h.elim
def fItems (i : Nat) (ds : DS) : R (List D × DS) := match ds[i]? with
  | some (.val (.dic 0 kvs)) => if kvs.all (fun kv => okKk kv.1) = true then .ok (kvs.map (fun kv => .tup [kv.1, kv.2]), ds) else .stuck
  | _ => .stuck
theorem items_run (i : Nat) : ∀ (b : Bx) (O : Addr → Bool) (H : Hp) (σ : L2.St) (ds : DS) (Rr : It → Hp → Prop), Lkd i σ H → DI X.K G b O H σ ds → EPost X.K G b W (ItD X.K) H O σ Rr (fItems i ds) → iItems (tVar i) σ H Rr := by
  intro b O H σ ds Rr ⟨d, od, u, e1, hd⟩ I h
  unfold fItems at h
  split at h
  · rename_i kvs e0
    split at h
    · rename_i hk
      obtain ⟨v, e2, rv⟩ := I.val e0
      rw [e1] at e2
      cases e2
      unfold Rep at rv
      obtain ⟨a, ea, hl, rv⟩ := rv
      cases ea
      rcases rv with ⟨_, ks, q, rk⟩ | ⟨z, _⟩
      · have q2 : hide H O d = some (.frz od (.dK ks)) := by
          rcases q with q | ⟨o, q⟩
          · have := (hide_of q).1; rw [hd] at this; cases this
          · have := (hide_of q).1; rw [hd] at this; cases this; exact q
        refine ⟨_, e1, d, od, ks, rfl, (hide_of q2).1, h _ H O I Ext.refl ?_⟩
        have kl := rk.length
        refine ⟨by rw [List.length_map]; exact hl, fun H2 O2 s hO j hj => ?_, fun H2 O2 s => ⟨(hide_of (s _ _ q2)).1, by rw [List.length_map, kl]; exact Nat.le_refl _⟩⟩
        rw [List.length_map] at hj
        refine ⟨⟨(hide_of (s _ _ q2)).1, by omega⟩, fun x H3 y => ?_⟩
        obtain ⟨T, k, v, ek, rfl, nT, rfl⟩ := y
        have s3 := same_upd (o := .tup [kV k, v]) nT
        refine ⟨s3, fun dd hdd => ?_⟩
        obtain ⟨d2, e3, r2⟩ := rk.getI ek
        rw [List.getElem?_map, e3] at hdd
        cases hdd
        exact rep_pair (hide_mk upd_same (hO T nT)) (rep_keyD (List.all_eq_true.mp hk _ (List.mem_of_getElem? e3))) (Rep.mono (SameR.of (s.trans (hide_same s3 O2))) _ _ r2)
      · cases z
    · exact h.elim
  · exact h.elim

/-- for k in x, x a dict -/
theorem sd_forK (i : Nat) {tg : Expr} {x : Str} {p : Pos} {body : List Stmt} {js : List Nat} {g : TgF} {fb : DS → Out} {pos : Pos} (hp : PassesOwn (model X.prog X.w) X.A X.env X.xe) (hg : GD X G tg js g) (hb : SDs X W G body fb) (hN : X.N[i]? = some x := by rfl) (hv : Vis X.env.scope x := by first | exact Or.inl rfl | exact Or.inr (Or.inl rfl) | exact Or.inr (Or.inr rfl))
    (hd : (x == ("__debug__" : Str)) = false := by decide) (hcd : (x == ("__classdict__" : Str)) = false := by decide) (hc : X.calm = true := by rfl)
    (hs : ∀ y, foldedSetIterable (.Name x p) X.env y = pure y := by intro _; rfl) : SD X W G (.For tg (.Name x p) body [] pos) (lockS i (sFor (fKeys i) g fb)) := by
  obtain ⟨tg', pg, rg⟩ := hg.ex
  obtain ⟨tb, pb, rb⟩ := hb.ex
  exact sd_lock i (ps_for hp hc (pi_keys (pe_var hN hv hd hcd)) pg pb hs) fun b O H σ ds E lk I h => for_run (Lk := Lkd i) (keys_run i) (fun b O H σ ds v d ds' Q I r e k => rg b O H σ ds v d ds' Q I r e fun σ' I' _ => k σ' I') rb b O H σ ds E lk I h
/-- for k, v in x.items() -/
theorem sd_forI (i : Nat) {elts : List Expr} {kk : Nat} {tpos : Pos} {x : Str} {p apos cpos : Pos} {body : List Stmt} {js : List Nat} {g : TgF} {fb : DS → Out} {pos : Pos} (hp : PassesOwn (model X.prog X.w) X.A X.env X.xe) (hg : GD X G (.Tuple elts kk tpos) js g) (hb : SDs X W G body fb) (hN : X.N[i]? = some x := by rfl) (hv : Vis X.env.scope x := by first | exact Or.inl rfl | exact Or.inr (Or.inl rfl) | exact Or.inr (Or.inr rfl))
    (hd : (x == ("__debug__" : Str)) = false := by decide) (hcd : (x == ("__classdict__" : Str)) = false := by decide) (hc : X.calm = true := by rfl)
    (hbase : attributeBase (.Name x p) "items" X.env (eval (.Name x p) X.env) = eval (.Name x p) X.env := by rfl) (hline : (apos.endLine == cpos.line) = true := by rfl)
    (hs : ∀ y, foldedSetIterable (.Call (.Attribute (.Name x p) "items" apos) [] [] cpos) X.env y = pure y := by intro _; rfl) : SD X W G (.For (.Tuple elts kk tpos) (.Call (.Attribute (.Name x p) "items" apos) [] [] cpos) body [] pos) (lockS i (sFor (fItems i) g fb)) := by
  obtain ⟨tg', pg, rg⟩ := hg.ex
  obtain ⟨tb, pb, rb⟩ := hb.ex
  exact sd_lock i (ps_for hp hc (pi_items (pe_var hN hv hd hcd) hbase hline) pg pb hs) fun b O H σ ds E lk I h => for_run (Lk := Lkd i) (items_run i) (fun b O H σ ds v d ds' Q I r e k => rg b O H σ ds v d ds' Q I r e fun σ' I' _ => k σ' I') rb b O H σ ds E lk I h
/-- [.. for k in x], x a dict -/
theorem eo_lcK (i : Nat) {elt tg : Expr} {x : Str} {p : Pos} {ifs : List Expr} {scope : Scope} {own : List (Str × Nat)} {pos : Pos} {js : List Nat} {g : TgF} {t : DS → R (Bool × DS)} {f : DS → R (D × DS)} (hN : X.N.Nodup) (ok : BlkOk X.N X.env.scope scope own)
    (hg : ∀ (s : Shared) (H : Hp) (C : Addr) (cl : List (Str × Addr)) (fp : List Addr), GD (X.blk s H scope (compEnvC scope cl C X.env) fp) G tg js g)
    (ht : ∀ (s : Shared) (H : Hp) (C : Addr) (cl : List (Str × Addr)) (fp : List Addr), PTD (X.blk s H scope (compEnvC scope cl C X.env) fp) W0 G ifs t)
    (he : ∀ (s : Shared) (H : Hp) (C : Addr) (cl : List (Str × Addr)) (fp : List Addr), ED (X.blk s H scope (compEnvC scope cl C X.env) fp) W0 G elt f)
    (hj : ∀ j ∈ js, j ∈ own.map (·.2) := by decide) (hi : X.N[i]? = some x := by rfl) (hv : Vis X.env.scope x := by first | exact Or.inl rfl | exact Or.inr (Or.inl rfl) | exact Or.inr (Or.inr rfl))
    (hd : (x == ("__debug__" : Str)) = false := by decide) (hcd : (x == ("__classdict__" : Str)) = false := by decide) (hc : X.calm = true := by rfl) (hs : ∀ y, foldedSetIterable (.Name x p) X.env y = pure y := by intro _; rfl) : EO X W G (.ListComp elt [⟨tg, .Name x p, ifs, 0⟩] scope pos) (lockE i (oLc (own.map (·.2)) (fKeys i) g t f)) :=
  eo_lock i (pe_lc (te := tE X.K G W0 f) (tt := tT X.K G W0 t) (g := gE X.K G js g) hc hN (pi_keys (pe_var hi hv hd hcd)) ok (fun s H C cl fp => (hg s H C cl fp).pg) (fun s H C cl fp => (ht s H C cl fp).pts) (fun s H C cl fp => (he s H C cl fp).pe) hs) (lc_runL hj (keys_run i))
/-- [.. for k, v in x.items()] -/
theorem eo_lcI (i : Nat) {elt : Expr} {elts : List Expr} {kk : Nat} {tpos : Pos} {x : Str} {p apos cpos : Pos} {ifs : List Expr} {scope : Scope} {own : List (Str × Nat)} {pos : Pos} {js : List Nat} {g : TgF} {t : DS → R (Bool × DS)} {f : DS → R (D × DS)} (hN : X.N.Nodup) (ok : BlkOk X.N X.env.scope scope own)
    (hg : ∀ (s : Shared) (H : Hp) (C : Addr) (cl : List (Str × Addr)) (fp : List Addr), GD (X.blk s H scope (compEnvC scope cl C X.env) fp) G (.Tuple elts kk tpos) js g)
    (ht : ∀ (s : Shared) (H : Hp) (C : Addr) (cl : List (Str × Addr)) (fp : List Addr), PTD (X.blk s H scope (compEnvC scope cl C X.env) fp) W0 G ifs t)
    (he : ∀ (s : Shared) (H : Hp) (C : Addr) (cl : List (Str × Addr)) (fp : List Addr), ED (X.blk s H scope (compEnvC scope cl C X.env) fp) W0 G elt f)
    (hj : ∀ j ∈ js, j ∈ own.map (·.2) := by decide) (hi : X.N[i]? = some x := by rfl) (hv : Vis X.env.scope x := by first | exact Or.inl rfl | exact Or.inr (Or.inl rfl) | exact Or.inr (Or.inr rfl))
    (hd : (x == ("__debug__" : Str)) = false := by decide) (hcd : (x == ("__classdict__" : Str)) = false := by decide) (hc : X.calm = true := by rfl)
    (hbase : attributeBase (.Name x p) "items" X.env (eval (.Name x p) X.env) = eval (.Name x p) X.env := by rfl) (hline : (apos.endLine == cpos.line) = true := by rfl)
    (hs : ∀ y, foldedSetIterable (.Call (.Attribute (.Name x p) "items" apos) [] [] cpos) X.env y = pure y := by intro _; rfl) : EO X W G (.ListComp elt [⟨.Tuple elts kk tpos, .Call (.Attribute (.Name x p) "items" apos) [] [] cpos, ifs, 0⟩] scope pos) (lockE i (oLc (own.map (·.2)) (fItems i) g t f)) :=
  eo_lock i (pe_lc (te := tE X.K G W0 f) (tt := tT X.K G W0 t) (g := gE X.K G js g) hc hN (pi_items (pe_var hi hv hd hcd) hbase hline) ok (fun s H C cl fp => (hg s H C cl fp).pg) (fun s H C cl fp => (ht s H C cl fp).pts) (fun s H C cl fp => (he s H C cl fp).pe) hs) (lc_runL hj (items_run i))
end
end DL

/-! DR: sets of texts; sorted; dict.get; a name lent; two names set at once -/
namespace SO
open PySem PySem.Spec PyProof.Rows
def uqs (acc : List Str) (x : Str) : List Str := if acc.any (· == x) then acc else acc ++ [x]
/-- each text once -/
def uq (l : List Str) : List Str := l.foldl uqs []
theorem uq_nil : uq [] = [] := rfl
theorem uq_snoc' (l : List Str) (x : Str) : uq (l ++ [x]) = uqs (uq l) x := by simp [uq, List.foldl_append]
theorem uqs_any (acc : List Str) (x k : Str) : (uqs acc x).any (· == k) = (acc.any (· == k) || x == k) := by
  unfold uqs
  split
  · rename_i h
    by_cases e : x = k
    · subst e; rw [h]; simp
    · rw [show (x == k) = false from by simpa using e, Bool.or_false]
  · simp [List.any_append]
theorem foldl_any (k : Str) : ∀ (l acc : List Str), (l.foldl uqs acc).any (· == k) = (acc.any (· == k) || l.any (· == k))
  | [], acc => by simp
  | x :: l, acc => by rw [List.foldl_cons, foldl_any k l, uqs_any, List.any_cons, Bool.or_assoc]
theorem uq_any (l : List Str) (k : Str) : (uq l).any (· == k) = l.any (· == k) := by unfold uq; rw [foldl_any]; simp
theorem uq_snoc (l : List Str) (x : Str) : (uq (l ++ [x])).length = if (uq l).any (· == x) = true then (uq l).length else (uq l).length + 1 := by
  rw [uq_snoc']; unfold uqs
  split <;> simp
theorem foldl_len : ∀ (l acc : List Str), (l.foldl uqs acc).length ≤ acc.length + l.length
  | [], acc => by simp
  | x :: l, acc => by
    have := foldl_len l (uqs acc x)
    have h2 : (uqs acc x).length ≤ acc.length + 1 := by unfold uqs; split <;> simp
    simp only [List.foldl_cons, List.length_cons]; omega
theorem uq_len (l : List Str) : (uq l).length ≤ l.length := by have := foldl_len l []; simpa [uq] using this
section
variable {pg : Program} {wd : World} {Aa : Around} {Rr : Result → Shared → Prop} {Ix : Addr} {fq wq : List Addr} {Gg : Array GenState → Array GenState → Prop} {nn : Nat} {Pp : Nat → Value → Prop} {Sts : Nat → Shared → Prop}
theorem set_loopS (Wk : WalksS pg wd Aa.in1 Ix fq wq Gg nn Pp Sts) (Sa : Addr) (hSn : Sa ∉ fq) (zs : List Str) (hzz : zs.length = nn) (hn1 : nn + 1 < scanBound)
    (hvl : ∀ ix vv, Pp ix vv → ∃ tt, vv = .str (zs.getD ix Str.empty) tt) :
    ∀ (kk ix : Nat) (sh : Shared), nn - ix = kk → ix ≤ nn → Sts ix sh →
      sh.heap.SetOf (PySem.strKind pg wd) Sa (fun k' => (zs.take ix).any (· == k')) (uq (zs.take ix)).length →
      (∀ sh', Moved (Sa :: wq) Gg sh sh' → sh'.heap.SetOf (PySem.strKind pg wd) Sa (fun k' => (zs.take nn).any (· == k')) (uq (zs.take nn)).length → Rr (.ok (.ret .none)) sh') →
      codeAny (model pg wd) Aa (.builtin "set.update.loop" ⟨[.ref Sa, .ref Ix], []⟩) Rr sh := by
  have hSwq : Sa ∉ wq := fun hq => hSn (Wk.sub _ hq)
  have hsb0 : ∀ bb ∈ wq, bb ∈ Sa :: wq := fun bb hbb => List.mem_cons_of_mem _ hbb
  intro kk
  induction kk with
  | zero =>
    intro ix sh hkk hix hs0 hSo hR
    have hin : ix = nn := by omega
    subst hin
    refine codeAny_builtin PyProof.Rows.F.entry_set_update_loop ?_
    rw [Around.under_plainId PyProof.Rows.F.plain_set_update_loop _]
    show wpAny _ Aa.in1 (pyNext (.ref Ix) >>= _) _ _ sh
    refine wpAny_bind (Wk.done sh _ _ hs0 fun sh' hmv => ?_)
    show wpAny _ Aa.in1 (ret Value.none) _ _ sh'
    exact wpAny_pure (hR sh' (hmv.mono hsb0) (by
      obtain ⟨ob, es, ep, tt, ho, rest⟩ := hSo
      exact ⟨ob, es, ep, tt, hmv.heap Sa _ hSwq ho, rest⟩))
  | succ kk ihh =>
    intro ix sh hkk hix hs0 hSo hR
    have hlx : ix < nn := by omega
    refine codeAny_builtin PyProof.Rows.F.entry_set_update_loop ?_
    rw [Around.under_plainId PyProof.Rows.F.plain_set_update_loop _]
    show wpAny _ Aa.in1 (pyNext (.ref Ix) >>= _) _ _ sh
    refine wpAny_bind (Wk.item ix sh _ _ hlx hs0 fun vv sh' hPp hstt hmv => ?_)
    obtain ⟨tt, rfl⟩ := hvl ix vv hPp
    have hSx : sh'.heap.SetOf (PySem.strKind pg wd) Sa (fun k' => (zs.take ix).any (· == k')) (uq (zs.take ix)).length := by
      obtain ⟨ob, es, ep, tb, ho, rest⟩ := hSo
      exact ⟨ob, es, ep, tb, hmv.heap Sa _ hSwq ho, rest⟩
    show wpAny _ Aa.in1 (holding [Value.str (zs.getD ix Str.empty) tt] (setAdd Sa (.str (zs.getD ix Str.empty) tt)) >>= _) _ _ sh'
    refine wpAny_bind (wpAny_holding ?_)
    unfold setAdd
    refine wpAny_holding ?_
    refine wpAny_bind ((PySem.strKind pg wd).pyHash (k := zs.getD ix Str.empty) (strKind_is _ _ _ _) ?_)
    refine wpAny_setAddHashed_of (knd := PySem.strKind pg wd) (s := { sh' with toks := sh'.toks + 1 }) (strKind_is _ _ _ _) rfl hSx (by have := uq_len (zs.take ix); rw [List.length_take] at this; omega) fun g' hsbb hS2 => ?_
    have hSi : g'.SetOf (PySem.strKind pg wd) Sa (fun k' => (zs.take (ix + 1)).any (· == k')) (uq (zs.take (ix + 1))).length := by
      have et : zs.take (ix + 1) = zs.take ix ++ [zs.getD ix Str.empty] := by
        have hz : ix < zs.length := by omega
        rw [List.take_succ, List.getElem?_eq_getElem hz, List.getD_eq_getElem?_getD, List.getElem?_eq_getElem hz]; rfl
      refine PyProof.Rows.SetOf_congr hS2 (fun k' => ?_) ?_
      · rw [et, List.any_append]
        by_cases e : k' = zs.getD ix Str.empty
        · subst e; simp
        · have hb : (zs.getD ix Str.empty == k') = false := by simpa [beq_iff_eq] using (fun q : zs.getD ix Str.empty = k' => e q.symm)
          simp only [List.any_cons, List.any_nil, Bool.or_false, hb, decide_eq_false e]
      · rw [et, uq_snoc, uq_any]
    refine wpAny_pure ⟨plainId_quiet PyProof.Rows.F.plain_set_update_loop _, ihh (ix + 1) _ (by omega) hlx (Wk.frame _ sh' _ _ hstt (Nat.le_succ _) fun bb hbb ob eq => ?_) hSi fun sh'' hm'' hS'' => ?_⟩
    · rw [hsbb.2 bb (fun hq : bb = Sa => hSn (by rw [← hq]; exact hbb))]; exact eq
    · refine hR sh'' (Moved.trans Wk.gtrans ((hmv.mono hsb0).then_heap (Nat.le_succ _) fun bb ob hbb eq => ?_) hm'') hS''
      rw [hsbb.2 bb (fun hq : bb = Sa => hbb (by rw [hq]; exact List.mem_cons_self))]; exact eq
end

section
variable {pg : Program} {wd : World} {Aa : Around} {Ee : Value → Shared → Prop} {sh : Shared}
set_option maxHeartbeats 3200000 in
theorem set_ofList {lc : Addr} {its : Array Value} {zs : List Str} {Qq : Value → Shared → Prop}
    (hhd : Aa.handled = none) (hli : sh.heap.IsList lc its) (hix : PyProof.Rows.StrsAre its.toList zs) (hn1 : zs.length + 1 < scanBound)
    (hq : ∀ (g' : Heap) (tz : Nat), g'.SetOf (PySem.strKind pg wd) sh.heap.objs.size (fun k' => (zs.take its.size).any (· == k')) (uq (zs.take its.size)).length →
      (∀ bb ob, bb < sh.heap.objs.size → sh.heap.get? bb = some ob → g'.get? bb = some ob) → Qq (.ref sh.heap.objs.size) { sh with heap := g', toks := tz }) :
    wpAny (model pg wd) Aa (call (.type "set") [.ref lc]) Qq Ee sh := by
  obtain ⟨cc, tll, hmr⟩ := PySem.F.called_set.mro
  have hmd := PySem.F.called_set.made
  have hsb0 := PySem.F.called_set.sub
  refine wpAny_call (codeAny_of_tree ?_)
  show wpAny _ _ (callAny (.type "set") _) _ _ _
  refine wpAny_pure ⟨Code.quiet_builtin _ (by decide +kernel), codeAny_builtin PySem.F.entry_type_call ?_⟩
  rw [Around.under_plain (weight_type_call_type "set" [.ref lc] []) rfl]
  have hx1 := PySem.F.called_set.notType
  have hx2 := PySem.F.called_set.canCreate
  have hctt := PySem.F.typeCall_set_1 (.ref lc)
  repeat (any_goals (first | assumption | wp_step))

  refine codeAny_mono (code_set_new_1 (.ref lc) (E := Ee) (Q₁ := fun oj sh1 => ∃ lg : Bool, oj = .ref sh.heap.objs.size ∧ sh1 = { sh with heap := sh.heap.push { cls := .type "set", dict := none, data := .set #[] 0 (.fresh 0 0 lg) } }) fun lg => ⟨lg, rfl, rfl⟩) fun rs sh1 hrr => ?_
  cases rs with
  | error eq => exact hrr
  | ok flw =>
    cases flw with
    | ret oj =>
      obtain ⟨lg, rfl, rfl⟩ := hrr
      have hSo : (sh.heap.push { cls := .type "set", dict := none, data := .set #[] 0 (.fresh 0 0 lg) }).get? sh.heap.objs.size = some { cls := .type "set", dict := none, data := .set #[] 0 (.fresh 0 0 lg) } := Heap.get?_push_size _ rfl
      have hTo : Shared.TypeIs { sh with heap := sh.heap.push { cls := .type "set", dict := none, data := .set #[] 0 (.fresh 0 0 lg) } } (.ref sh.heap.objs.size) "set" := ⟨_, hSo, rfl⟩
      have hlii := PySem.F.called_set.init.lookup
      have hbii := PySem.F.called_set.init.bind (.ref sh.heap.objs.size)
      repeat (any_goals (first | assumption | wp_step))

      refine codeAny_mono (codeAny_call_builtin (R := wants (fun rs sh2 => rs = .none ∧ ∃ g' tz, sh2 = { sh with heap := g', toks := tz } ∧
          g'.SetOf (PySem.strKind pg wd) sh.heap.objs.size (fun k' => (zs.take its.size).any (· == k')) (uq (zs.take its.size)).length ∧
          (∀ bb ob, bb < sh.heap.objs.size → sh.heap.get? bb = some ob → g'.get? bb = some ob)) Ee) PySem.F.called_set.init.plain PySem.F.entry_set_init (check_set_init_1 hTo ?_)) fun rs2 sh2 hrr2 => ?_
      · obtain ⟨oll, holl, hcll, nll, hdll⟩ := hli
        obtain ⟨ocls, odict, odata, oslots⟩ := oll
        simp only at hcll hdll
        subst hcll; subst hdll
        have holx : (sh.heap.push { cls := .type "set", dict := none, data := .set #[] 0 (.fresh 0 0 lg) }).get? lc = some { cls := .type "list", dict := odict, data := .seq its nll, slots := oslots } := Heap.get?_push_of_some _ holl
        have hs1s := PySem.F.sub_list_set
        have hs1f := PySem.F.sub_list_frozenset
        have hnee : (Value.type "list" == Value.type "dict") = false := by decide
        have hli1 : (sh.heap.push { cls := .type "set", dict := none, data := .set #[] 0 (.fresh 0 0 lg) }).IsList lc its := ⟨_, holx, rfl, nll, rfl⟩
        unfold Builtin.«set.__init__» noKeywords Builtin.Frozenset.updateFrom
        generalize hPIt : pyIter = PIt
        wp_walk
        subst hPIt

        refine wpAny_pyIter_list hli1 ?_
        refine wpAny_bind (wpAny_runValue ?_)
        have hLt : lc < sh.heap.objs.size := Heap.lt_size holl
        have hhd3 : Aa.in1.in1.in1.handled = none := by simp [hhd]
        have hnI : lc ≠ (sh.heap.push { cls := .type "set", dict := none, data := .set #[] 0 (.fresh 0 0 lg) }).objs.size := by
          rw [Heap.size_push]; exact Nat.ne_of_lt (Nat.lt_succ_of_lt hLt)
        have hSn : sh.heap.objs.size ∉ [(sh.heap.push { cls := .type "set", dict := none, data := .set #[] 0 (.fresh 0 0 lg) }).objs.size, lc] := by
          rw [Heap.size_push]; simp only [List.mem_cons, List.mem_singleton, List.not_mem_nil, or_false, not_or]
          exact ⟨Nat.ne_of_lt (Nat.lt_succ_self _), Nat.ne_of_gt hLt⟩
        have hzz : zs.length = its.size := by rw [← StrsAre.len_eq hix, Array.length_toList]
        have hvl : ∀ (ix : Nat) (vv : Value), its[ix]? = some vv → ∃ tt, vv = .str (zs.getD ix Str.empty) tt := fun ix vv hv => SS.strs_at hix ix vv (by rw [Array.getElem?_toList]; exact hv)
        refine set_loopS ((Walks.list hhd3 _ lc hnI its).toS) sh.heap.objs.size
          hSn zs hzz (by rw [← hzz]; exact hn1) hvl (its.size - 0) 0 _ (by omega) (Nat.zero_le _)
          ⟨⟨_, Heap.get?_push_size _ rfl, rfl, rfl⟩, (hli1.push _)⟩ ?hS0 ?hR
        case hS0 =>
          have hgt : ((sh.heap.push { cls := .type "set", dict := none, data := .set #[] 0 (.fresh 0 0 lg) }).push { cls := .type "list_iterator", data := .fields #[.ref lc, .int 0 0] }).get? sh.heap.objs.size
              = some { cls := .type "set", dict := none, data := .set #[] 0 (.fresh 0 0 lg) } := Heap.get?_push_of_some _ hSo
          exact PyProof.Rows.SetOf_congr ((PyProof.Rows.setObjOf_fresh (knd := PySem.strKind pg wd) lg).setOf hgt (by unfold scanBound; omega)) (fun _ => rfl) rfl
        case hR =>
          intro sh' hmv hSx
          obtain ⟨g', gg', dd', tz', oo'⟩ := sh'
          have egg : gg' = sh.gens := hmv.gens
          have edd : dd' = sh.drawn := hmv.drawn
          have eoo : oo' = sh.os := hmv.os
          subst egg; subst edd; subst eoo
          show wpAny _ _ _ _ _ _
          refine wpAny_pure ?_
          show wpAny _ _ (ret Value.none) _ _ _
          refine wpAny_pure ⟨rfl, g', tz', rfl, hSx, fun bb ob hbb eq => ?_⟩
          have hbb1 : bb ≠ sh.heap.objs.size := Nat.ne_of_lt hbb
          have hbb2 : bb ≠ (sh.heap.push { cls := .type "set", dict := none, data := .set #[] 0 (.fresh 0 0 lg) }).objs.size := by
            rw [Heap.size_push]; exact Nat.ne_of_lt (Nat.lt_succ_of_lt hbb)
          exact hmv.heap bb ob (by simp only [List.mem_cons, List.mem_singleton, List.not_mem_nil, or_false, not_or]; exact ⟨hbb1, hbb2⟩) (Heap.get?_push_of_some _ (Heap.get?_push_of_some _ eq))

      · cases rs2 with
        | error eq => exact hrr2
        | ok flw2 =>
          cases flw2 with
          | ret rs =>
            obtain ⟨rfl, g', tz, rfl, hSx, hkx⟩ := hrr2
            repeat (any_goals (first | assumption | wp_step))
            exact hq _ _ hSx hkx
          | _ => exact hrr2.elim
    | _ => exact hrr.elim

set_option maxHeartbeats 3200000 in
end
end SO

/-! DT: sets of texts, sorted, dict.get, two names set at once, a name lent -/
namespace DL
open PySem L2

/-! ### texts in order -/
theorem ltCps_eq : ∀ (a b : List Nat), PySem.Spec.ltCps a b = ltL a b
  | [], [] => rfl
  | [], _ :: _ => rfl
  | _ :: _, [] => rfl
  | x :: a, y :: b => by
    show (decide (x < y) || ((x == y) && PySem.Spec.ltCps a b)) = ltL (x :: a) (y :: b)
    rw [ltCps_eq a b]
    show _ = (if x < y then true else if y < x then false else ltL a b)
    by_cases h : x < y
    · simp [h]
    · by_cases h2 : y < x
      · have : (x == y) = false := by simp; omega
        simp [h, h2, this]
      · have e : x = y := by omega
        subst e
        simp
theorem ltL_irrefl : ∀ a, ltL a a = false
  | [] => rfl
  | x :: a => by unfold ltL; simp [ltL_irrefl a]
theorem ltL_anti : ∀ {a b : List Nat}, ltL a b = false → ltL b a = false → a = b
  | [], [], _, _ => rfl
  | [], _ :: _, h, _ => by simp [ltL] at h
  | _ :: _, [], _, h => by simp [ltL] at h
  | x :: a, y :: b, h, k => by
    unfold ltL at h k
    by_cases h1 : x < y
    · simp [h1] at h
    · by_cases h2 : y < x
      · simp [h2] at k
      · have e : x = y := by omega
        subst e
        simp at h k
        rw [ltL_anti h k]
theorem ltL_trans : ∀ {a b c : List Nat}, ltL b a = false → ltL c b = false → ltL c a = false
  | a, b, [], h, k => by
    cases a with
    | nil => rfl
    | cons x a => cases b with
      | nil => simp [ltL] at h
      | cons y b => simp [ltL] at k
  | [], b, z :: c, h, k => by simp [ltL]
  | x :: a, [], z :: c, h, k => by simp [ltL] at h
  | x :: a, y :: b, z :: c, h, k => by
    unfold ltL at h k ⊢
    by_cases h1 : y < x
    · simp [h1] at h
    · by_cases h2 : z < y
      · simp [h2] at k
      · rw [if_neg (show ¬ z < x by omega)]
        by_cases h3 : x < z
        · rw [if_pos h3]
        · rw [if_neg h3]
          rw [if_neg h1, if_neg (show ¬ x < y by omega)] at h
          rw [if_neg h2, if_neg (show ¬ y < z by omega)] at k
          exact ltL_trans h k
def insN (x : List Nat) : List (List Nat) → List (List Nat)
  | [] => [x]
  | y :: r => if ltL y x = true then y :: insN x r else x :: y :: r
def sortN : List (List Nat) → List (List Nat)
  | [] => []
  | x :: r => insN x (sortN r)
def SortedN (l : List (List Nat)) : Prop := l.Pairwise fun a b => ltL b a = false
theorem insN_perm (x : List Nat) : ∀ l, (insN x l).Perm (x :: l)
  | [] => List.Perm.refl _
  | y :: r => by
    unfold insN
    split
    · exact ((insN_perm x r).cons y).trans (List.Perm.swap x y r)
    · exact List.Perm.refl _
theorem sortN_perm : ∀ l, (sortN l).Perm l
  | [] => List.Perm.refl _
  | x :: r => (insN_perm x _).trans ((sortN_perm r).cons x)
theorem insN_sorted (x : List Nat) : ∀ {l}, SortedN l → SortedN (insN x l)
  | [], _ => by unfold insN SortedN; simp
  | y :: r, h => by
    unfold SortedN at h ⊢
    obtain ⟨h1, h2⟩ := List.pairwise_cons.mp h
    unfold insN
    split
    · rename_i hy
      refine List.pairwise_cons.mpr ⟨fun z hz => ?_, insN_sorted x h2⟩
      rcases List.mem_cons.mp ((insN_perm x r).mem_iff.mp hz) with rfl | hz
      · cases e : ltL z y with
        | false => rfl
        | true =>
          exfalso
          have : ltL y y = true := by
            cases e2 : ltL y y with
            | true => rfl
            | false =>
              -- y < z and z < y
              have a1 : ltL y z = true := hy
              have : ∀ a b : List Nat, ltL a b = true → ltL b a = true → False := fun a => by
                induction a with
                | nil => intro b p q; cases b <;> simp [ltL] at p q
                | cons u a ih =>
                  intro b p q
                  cases b with
                  | nil => simp [ltL] at p
                  | cons v b =>
                    unfold ltL at p q
                    by_cases h1 : u < v
                    · rw [if_neg (show ¬ v < u by omega), if_pos h1] at q; cases q
                    · by_cases h2 : v < u
                      · rw [if_neg h1, if_pos h2] at p; cases p
                      · rw [if_neg h1, if_neg h2] at p
                        rw [if_neg h2, if_neg h1] at q
                        exact ih b p q
              exact (this _ _ a1 e).elim
          rw [ltL_irrefl] at this
          cases this
      · exact h1 z hz
    · rename_i hy
      have hy : ltL y x = false := by simpa using hy
      refine List.pairwise_cons.mpr ⟨fun z hz => ?_, h⟩
      rcases List.mem_cons.mp hz with rfl | hz
      · exact hy
      · exact ltL_trans hy (h1 z hz)
theorem sortN_sorted : ∀ l, SortedN (sortN l)
  | [] => List.Pairwise.nil
  | x :: r => insN_sorted x (sortN_sorted r)
theorem sorted_uniq : ∀ {a b : List (List Nat)}, a.Perm b → SortedN a → SortedN b → a = b
  | [], b, p, _, _ => (List.Perm.nil_eq p)
  | x :: a, b, p, h, k => by
    cases b with
    | nil => exact absurd p.symm.nil_eq (by simp)
    | cons y b =>
      obtain ⟨h1, h2⟩ := List.pairwise_cons.mp h
      obtain ⟨k1, k2⟩ := List.pairwise_cons.mp k
      have e : x = y := by
        have hx : x ∈ y :: b := p.mem_iff.mp List.mem_cons_self
        have hy : y ∈ x :: a := p.mem_iff.mpr List.mem_cons_self
        rcases List.mem_cons.mp hx with q | hx
        · exact q
        · rcases List.mem_cons.mp hy with q | hy
          · exact q.symm
          · exact ltL_anti (k1 x hx) (h1 y hy)
      subst e
      rw [sorted_uniq (List.Perm.cons_inv p) h2 k2]
theorem rising_sorted : ∀ {l : List Str} {p : Str}, PyProof.Rows.risingS p l = true → SortedN ((p :: l).map fun s => s.cps.toList)
  | [], p, _ => by unfold SortedN; simp
  | x :: r, p, h => by
    unfold PyProof.Rows.risingS at h
    rw [Bool.and_eq_true, Bool.not_eq_true', ltCps_eq] at h
    have ih := rising_sorted h.2
    unfold SortedN at ih ⊢
    rw [List.map_cons] at ih ⊢
    refine List.pairwise_cons.mpr ⟨fun z hz => ?_, ih⟩
    obtain ⟨i1, i2⟩ := List.pairwise_cons.mp ih
    rcases List.mem_cons.mp hz with rfl | hz
    · exact h.1
    · exact ltL_trans h.1 (i1 z hz)
theorem sortedS_sorted {l : List Str} (h : PyProof.Rows.sortedS l = true) : SortedN (l.map fun s => s.cps.toList) := by
  cases l with
  | nil => exact List.Pairwise.nil
  | cons x r => exact rising_sorted h
theorem sorted_eq {bs : List (List Nat)} {ys : List Str} (p : ys.Perm (bs.map sv)) (h : PyProof.Rows.sortedS ys = true) : ys = (sortN bs).map sv := by
  have e : ys.map (fun s => s.cps.toList) = sortN bs := by
    refine sorted_uniq ?_ (sortedS_sorted h) (sortN_sorted bs)
    refine List.Perm.trans ?_ (sortN_perm bs).symm
    have := p.map (fun s : Str => s.cps.toList)
    rw [List.map_map] at this
    rwa [show ((fun s : Str => s.cps.toList) ∘ sv) = id from funext sv_list, List.map_id] at this
  rw [← e, List.map_map, show (sv ∘ fun s : Str => s.cps.toList) = id from funext sv_of, List.map_id]

section
variable {X : Cx} {W : WX} {G : Gx}
def strKeys : List (D × D) → Option (List (List Nat))
  | [] => some []
  | (.str s, _) :: r => (strKeys r).map (s :: ·)
  | _ :: _ => none
theorem RepK.strs {K : PySem.W.Frag} {H : Hp} : ∀ {kvs : List (D × D)} {ks : List (Key × V)} {bs : List (List Nat)}, RepK K H kvs ks → strKeys kvs = some bs → ks.map (·.1) = (bs.map sv).map Sum.inr
  | [], ks, bs, h, e => by unfold RepK at h; simp only [strKeys, Option.some.injEq] at e; subst e; subst h; rfl
  | (k, d) :: r, ks, bs, h, e => by
    unfold RepK at h
    obtain ⟨q, x, s, rfl, rfl, h1, h2⟩ := h
    cases q with
    | inl i => simp [keyD, strKeys] at e
    | inr t =>
      simp only [keyD, strKeys] at e
      obtain ⟨bs', e1, rfl⟩ := Option.map_eq_some_iff.mp e
      simp only [List.map_cons, RepK.strs h2 e1, sv_of]
def dSorted (l : List D) : Option D := match l with
  | [.lst l] => match strsD l with
    | some bs => if bs.length < 64 then some (.lst ((sortN bs).map .str)) else none
    | none => none
  | [.dic 0 kvs] => match strKeys kvs with
    | some bs => if bs.length < 64 ∧ bs.all okS = true then some (.lst ((sortN bs).map .str)) else none
    | none => none
  | _ => none
theorem repl_strs {K : PySem.W.Frag} {H : Hp} : ∀ {bs : List (List Nat)}, (∀ b ∈ bs, okS b = true) → RepL K H (bs.map .str) ((bs.map sv).map V.str)
  | [], _ => RepL.nil
  | b :: r, h => RepL.cons (rep_str rfl (h b List.mem_cons_self)) (repl_strs fun x hx => h x (List.mem_cons_of_mem _ hx))
theorem sorted_end {K : PySem.W.Frag} {H : Hp} {O : Addr → Bool} {bs : List (List Nat)} {ys : List Str} {p : Addr} (hb : ∀ b ∈ bs, okS b = true) (hl : bs.length < 64) (pm : ys.Perm (bs.map sv)) (h : PyProof.Rows.sortedS ys = true) (np : H p = none) (hO : O p = false) :
    Rep K (hide (upd H p (.lst (ys.map V.str))) O) (.lst ((sortN bs).map .str)) (.ref p) := by
  have e := sorted_eq pm h
  subst e
  refine rep_newL np hO (repl_strs fun b hb' => hb b ((sortN_perm bs).mem_iff.mp hb')) ?_
  rw [List.length_map, (sortN_perm bs).length_eq]
  exact Nat.le_trans (Nat.le_of_lt hl) (by decide)
theorem callr_or {f : Value} {r r' : List V → Hp → VK → Prop} (h : CallR X f r) (h' : CallR X f r') : CallR X f (fun vs H Q => r vs H Q ∨ r' vs H Q) := fun pins s σ H vs us Q I rr q => q.elim (h pins s σ H vs us Q I rr) (h' pins s σ H vs us Q I rr)
theorem cd_sorted (hc : X.calm = true) : CallD X (.builtin "sorted") dSorted := by
  refine ⟨_, callr_or cr_sortedS (call_sortedD hc), fun O H vs ds d Q hO r e k => ?_⟩
  unfold dSorted at e
  split at e
  · split at e
    · rename_i bs eb
      split at e
      · rename_i hl
        cases e
        obtain ⟨v, rfl, rv⟩ := r.one_inv
        unfold Rep at rv
        obtain ⟨a, xs, rfl, g1, g2, _⟩ := rv
        obtain ⟨q1, q2⟩ := g2.strs eb
        refine .inl ⟨a, bs.map sv, rfl, by rw [← q1]; exact SqL.of (hide_of g1).1, by rw [List.length_map]; exact hl, fun ys p pm hs np => ?_⟩
        exact k _ _ (same_upd np) (sorted_end q2 hl pm hs np (hO p np))
      · cases e
    · cases e
  · split at e
    · rename_i bs eb
      split at e
      · rename_i hl
        cases e
        obtain ⟨v, rfl, rv⟩ := r.one_inv
        unfold Rep at rv
        obtain ⟨a, rfl, _, rv⟩ := rv
        rcases rv with ⟨_, ks, q, rk⟩ | ⟨z, _⟩
        · refine .inr ⟨a, ks, bs.map sv, rfl, SameR.hide_all.rd _ _ nf_dK q, rk.strs eb, by rw [List.length_map]; exact hl.1, fun ys p pm hs np => ?_⟩
          exact k _ _ (same_upd np) (sorted_end (fun b hb => List.all_eq_true.mp hl.2 b hb) hl.1 pm hs np (hO p np))
        · cases z
      · cases e
    · cases e
  · cases e

/-! ### len(set(xs)), xs a list of texts -/
def uqS (acc : List (List Nat)) (x : List Nat) : List (List Nat) := if acc.contains x then acc else acc ++ [x]
def uqN (l : List (List Nat)) : List (List Nat) := l.foldl uqS []
theorem uqN_eq (l : List (List Nat)) : SO.uq (l.map sv) = (uqN l).map sv := by
  have key : ∀ (l acc : List (List Nat)), (l.map sv).foldl SO.uqs (acc.map sv) = (l.foldl uqS acc).map sv := by
    intro l
    induction l with
    | nil => intro acc; rfl
    | cons x r ih =>
      intro acc
      rw [List.map_cons, List.foldl_cons, List.foldl_cons, ← ih]
      congr 1
      unfold SO.uqs uqS
      have e : (acc.map sv).any (· == sv x) = acc.contains x := by
        rw [List.any_map, List.contains_eq_any_beq]
        congr 1
        funext y
        show (sv y == sv x) = (x == y)
        rw [sv_beq]
        by_cases h : y = x
        · subst h; simp
        · rw [decide_eq_false h]
          exact (by simpa using fun q : x = y => h q.symm : (x == y) = false).symm
      rw [e]
      split <;> simp
  exact key l []
def fLenSet (f : DS → R (D × DS)) (ds : DS) : R (D × DS) := (f ds).bind fun p => match p.1 with
  | .lst l => (match strsD l with
    | some bs => if bs.length < 100 then .ok (.int (uqN bs).length, p.2) else .stuck
    | none => .stuck)
  | _ => .stuck
def tLenSetS (K : PySem.W.Frag) (ta : TE) : TE := fun σ H Q => ta σ H fun x H1 => ∃ l, ∃ zs : List Str, x = .ref l ∧ SqL K H1 l (zs.map V.str) ∧ zs.length + 1 < scanBound ∧ Q (.int (SO.uq zs).length) H1
theorem pe_lenSetS {a : Expr} {ta : TE} {p p2 q pos : Pos} (hc : X.calm = true) (hg : Gl X "len") (hm : X.mg "len" = none) (hg2 : Gl X "set") (hm2 : X.mg "set" = none) (ha : PE X a ta)
    (na : starEach [a] X.env = (false, eval a X.env) :: starEach [] X.env) : PE X (.Call (.Name "len" p) [.Call (.Name "set" p2) [a] [] q] [] pos) (tLenSetS X.K ta) := by
  refine ⟨fun pins st σ H Q I hh => ?_⟩
  refine PyProof.Rows.Call_ (ld_blt I hg hm boot_len (PyProof.Rows.callWith_builtin1 (PyProof.Rows.args_cons ?_ rfl) rfl rfl))
  refine PyProof.Rows.Call_ (ld_blt I hg2 hm2 PyProof.Rows.boot_set (PyProof.Rows.callWith_type1 (PyProof.Rows.args_cons (thn (ha.run pins st σ H _ I hh) fun v s1 ⟨x, H1, I1, r1, q1⟩ => PyProof.Rows.args_nil ?_) na) na rfl))
  obtain ⟨l, zs, rfl, hq, hb, q1⟩ := q1
  cases r1
  obtain ⟨its, r, pl, hz⟩ := I1.list hq
  have hl : its.toArray.size = zs.length := by rw [List.size_toArray, ← r.length, List.length_map]
  refine SO.set_ofList (I1.ok.hd hc) pl.isList (by simpa using strsAre_of r) hb fun h' tk hS hk => ?_
  rw [hl, List.take_length] at hS
  refine PyProof.Rows.args_nil ?_
  obtain ⟨o, es, ep, t, ho, hex, hd, _, _, hsz, hf, hn⟩ := hS
  have I2 : Inv X pins σ H1 { s1 with heap := h', toks := tk } := I1.kept fun b o e => hk b o (Heap.lt_size e) e
  have := SO.uq_len zs
  refine call_len_set ho hex hd hf (by rw [hn]; unfold scanBound at hb; omega) ⟨.int (SO.uq zs).length, H1, I2.tok _, ⟨_, by rw [hn]⟩, q1⟩
theorem ed_lenSet {a : Expr} {f : DS → R (D × DS)} {p p2 q pos : Pos} (hc : X.calm = true) (hm : X.mg "len" = none) (hm2 : X.mg "set" = none) (ha : ED X W G a f) (hg : Gl X "len" := by rfl) (hg2 : Gl X "set" := by rfl)
    (na : starEach [a] X.env = (false, eval a X.env) :: starEach [] X.env := by rfl) : ED X W G (.Call (.Name "len" p) [.Call (.Name "set" p2) [a] [] q] [] pos) (fLenSet f) := by
  obtain ⟨t, pt, r⟩ := ha.ex
  refine ⟨_, pe_lenSetS hc hg hm hg2 hm2 pt na, fun b O H σ ds Q I h => r b O H σ ds _ I (EPost.bind h fun d1 ds1 v1 H1 O1 w1 I1 x1 r1 h1 => ?_)⟩
  dsimp only at h1
  split at h1
  · rename_i l
    split at h1
    · rename_i bs eb
      split at h1
      · rename_i hl
        have r1 : Rep X.K (hide H1 O1) (.lst l) v1 := r1
        unfold Rep at r1
        obtain ⟨a, xs, rfl, g1, g2, _⟩ := r1
        obtain ⟨q1, q2⟩ := g2.strs eb
        refine ⟨a, bs.map sv, rfl, by rw [← q1]; exact SqL.of (hide_of g1).1, by rw [List.length_map]; unfold scanBound; omega, ?_⟩
        rw [uqN_eq, List.length_map]
        exact EPost.done (rel := relE X.K) h1 I1 rep_i
      · exact h1.elim
    · exact h1.elim
  · exact h1.elim
end
end DL

/-! DU: dict.get, two names set at once, a name lent to be read -/
namespace DL
open PySem L2
section
variable {X : Cx} {W : WX} {G : Gx}
/-! ### d.get(k), d.get(k, x) -/
def isDicD : D → Bool
  | .dic _ _ => true
  | _ => false
def fGet1 (fo fe : DS → R (D × DS)) (ds : DS) : R (D × DS) := (fo ds).bind fun p => match p.1 with
  | .dic t kvs => (fe p.2).bind fun q => if fitK t q.1 = true then .ok ((dget kvs q.1).getD .non, q.2) else .stuck
  | _ => .stuck
theorem rep_isD {K : PySem.W.Frag} {H : Hp} {O : Addr → Bool} {t : Nat} {kvs : List (D × D)} {v : V} (h : Rep K (hide H O) (.dic t kvs) v) : ∃ a, v = .ref a ∧ IsD H a := by
  unfold Rep at h
  obtain ⟨a, rfl, _, h⟩ := h
  refine ⟨a, rfl, ?_⟩
  rcases h with ⟨_, ks, q, _⟩ | ⟨_, ks, q, _⟩
  · exact .inl ⟨ks, SameR.hide_all.rd _ _ nf_dK q⟩
  · exact .inr ⟨ks, SameR.hide_all.rd _ _ nf_dT q⟩
theorem ed_get1 {o e : Expr} {fo fe : DS → R (D × DS)} {apos cpos : Pos} (hu : X.A.units + 1 < cLine) (ho : ED X W G o fo) (he : ED X W G e fe) (m : M1 X o "get" apos e cpos := by exact ⟨rfl, rfl, rfl, rfl⟩) : ED X W G (.Call (.Attribute o "get" apos) [e] [] cpos) (fGet1 fo fe) := by
  obtain ⟨to, po, ro⟩ := ho.ex
  obtain ⟨te, pe, re⟩ := he.ex
  refine ⟨_, pe_dget1 hu po pe m, fun b O H σ ds Q I h => ro b O H σ ds _ I (EPost.bind h fun d1 ds1 v1 H1 O1 w1 I1 x1 r1 h1 => ?_)⟩
  dsimp only at h1
  split at h1
  · rename_i t kvs
    obtain ⟨a, rfl, ha⟩ := rep_isD r1
    refine ⟨a, rfl, ha, re b O1 H1 σ ds1 _ I1 (EPost.bind h1 fun d2 ds2 v2 H2 O2 w2 I2 x2 r2 h2 => ?_)⟩
    dsimp only at h2
    split at h2
    · rename_i hf
      obtain ⟨a', o, ea, g, ro⟩ := Rep.dget_ (H2 := H2) (fun a u n h => SameR.hide_all.rd a u n h) (fun a xs h => (hide_of h).1) (Rep.mono x2.same _ _ r1) r2 hf
      cases ea
      refine ⟨o, g, EPost.done (rel := relE X.K) h2 I2 ?_⟩
      cases e1 : dget kvs d2 with
      | none => rw [e1] at ro; cases o with
        | none => exact rep_non.mpr rfl
        | some v => exact ro.elim
      | some d => rw [e1] at ro; cases o with
        | none => exact ro.elim
        | some v => exact ro
    · exact h2.elim
  · exact h1.elim
def fGet2 (fo fe fx : DS → R (D × DS)) (ds : DS) : R (D × DS) := (fo ds).bind fun p => match p.1 with
  | .dic t kvs => (fe p.2).bind fun q => (fx q.2).bind fun r => if fitK t q.1 = true then .ok ((dget kvs q.1).getD r.1, r.2) else .stuck
  | _ => .stuck
theorem ed_get2 {o e f : Expr} {fo fe fx : DS → R (D × DS)} {apos cpos : Pos} (hu : X.A.units + 1 < cLine) (ho : ED X W G o fo) (he : ED X W G e fe) (hf : ED X W G f fx) (m : M2 X o "get" apos e f cpos := by exact ⟨rfl, rfl, rfl, rfl⟩) : ED X W G (.Call (.Attribute o "get" apos) [e, f] [] cpos) (fGet2 fo fe fx) := by
  obtain ⟨to, po, ro⟩ := ho.ex
  obtain ⟨te, pe, re⟩ := he.ex
  obtain ⟨tx, px, rx⟩ := hf.ex
  refine ⟨_, pe_dget2 hu po pe px m, fun b O H σ ds Q I h => ro b O H σ ds _ I (EPost.bind h fun d1 ds1 v1 H1 O1 w1 I1 x1 r1 h1 => ?_)⟩
  dsimp only at h1
  split at h1
  · rename_i t kvs
    obtain ⟨a, rfl, ha⟩ := rep_isD r1
    refine ⟨a, rfl, ha, re b O1 H1 σ ds1 _ I1 (EPost.bind h1 fun d2 ds2 v2 H2 O2 w2 I2 x2 r2 h2 => ?_)⟩
    refine rx b O2 H2 σ ds2 _ I2 (EPost.bind h2 fun d3 ds3 v3 H3 O3 w3 I3 x3 r3 h3 => ?_)
    dsimp only at h3
    split at h3
    · rename_i hf
      obtain ⟨a', o, ea, g, ro⟩ := Rep.dget_ (H2 := H3) (fun a u n h => SameR.hide_all.rd a u n h) (fun a xs h => (hide_of h).1) (Rep.mono x3.same _ _ (Rep.mono x2.same _ _ r1)) (Rep.mono x3.same _ _ r2) hf
      cases ea
      refine ⟨o, g, EPost.done (rel := relE X.K) h3 I3 ?_⟩
      cases e1 : dget kvs d2 with
      | none => rw [e1] at ro; cases o with
        | none => exact r3
        | some v => exact ro.elim
      | some d => rw [e1] at ro; cases o with
        | none => exact ro.elim
        | some v => exact ro
    · exact h3.elim
  · exact h1.elim

/-! ### a, b = e, f -/
def sPar (i j : Nat) (f : DS → R (List D × DS)) (ds : DS) : Out := toOut (f ds) fun l ds' => match l with
  | [d, e] => .nx ((ds'.set i (.val d)).set j (.val e))
  | _ => .stuck
theorem sd_par (i j : Nat) {x y : Str} {a c : Expr} {f : DS → R (List D × DS)} {px py pt pos : Pos} {kt k2 pt2} (hf : AD X W G [a, c] f) (hN : X.N.Nodup) (hp : i ∉ G.ps := by first | decide | exact of_decide_eq_true rfl) (hq : j ∉ G.ps := by first | decide | exact of_decide_eq_true rfl) (hi : X.N[i]? = some x := by rfl) (hj : X.N[j]? = some y := by rfl) (hij : i ≠ j := by decide)
    (hx : X.env.scope.names.lookup x = some .local := by rfl) (hy : X.env.scope.names.lookup y = some .local := by rfl) (hc : X.calm = true := by rfl)
    (hw : swappedStores [.Tuple [.Name x px, .Name y py] kt pt] (.Tuple [a, c] k2 pt2) X.env = pure (some [x, y]) := by rfl)
    (hs : swapsWithSole [.Tuple [.Name x px, .Name y py] kt pt] (.Tuple [a, c] k2 pt2) pos.line X.env = pure false := by rfl) : SD X W G (.Assign [.Tuple [.Name x px, .Name y py] kt pt] (.Tuple [a, c] k2 pt2) pos) (sPar i j f) := by
  obtain ⟨t, p, r⟩ := hf.ex
  refine ⟨_, ps_par hc hN hi hj hij hx hy p hw hs, fun b O H σ ds E I h => r b O H σ ds _ I (SPost.eval h fun l ds' vs H' O' _ I' _ hr h' => ?_)⟩
  split at h'
  · rename_i d e
    obtain ⟨v, w, rfl, rv, rw'⟩ := hr.two_inv
    exact ⟨v, w, rfl, h' _ H' O' ((I'.setVal hp rv).setVal hq rw') Ext.refl⟩
  · exact h'.elim

/-! ### owned names lent to a def that only reads -/
def shOf : List Ar → DS → Option (List Sl)
  | [], _ => some []
  | .v d :: r, ds => (shOf r ds).map (.val d :: ·)
  | .o i :: r, ds => match ds[i]? with
    | some (.own c) => (match dOf c with
      | some d => (shOf r ds).map (.val d :: ·)
      | none => none)
    | _ => none
def fCallSh (F : List Sl → Res) (fa : DS → R (List Ar × DS)) (ds : DS) : R (D × DS) := (fa ds).bind fun p => match shOf p.1 p.2 with
  | none => .stuck
  | some as => match F as with
    | .ret d [] => if flatD d = true then .ok (d, p.2) else .stuck
    | _ => .stuck
theorem flat_rep {K : PySem.W.Frag} {H H' : Hp} {d : D} {v : V} (f : flatD d = true) (h : Rep K H d v) : Rep K H' d v := by
  cases d <;> first
    | (unfold Rep at h ⊢; exact h)
    | (simp [flatD] at f)
theorem sh_args {b : Bx} {O : Addr → Bool} {H : Hp} {σ : L2.St} {ds : DS} (I : DI X.K G b O H σ ds) : ∀ {l : List Ar} {vs : List V} {as : List Sl}, ArR X.K σ (hide H O) l vs → shOf l ds = some as → ∃ ps : List Addr, (∀ p ∈ ps, H p ≠ none ∧ b.B p = false) ∧ ∀ O2 : Addr → Bool, (∀ a, O2 a = true → O a = true ∧ a ∉ ps) → ArgsR X.K G.cm O2 H vs as []
  | [], vs, as, h, e => by
    simp only [shOf, Option.some.injEq] at e; subst e
    cases (show vs = [] from h)
    exact ⟨[], by simp, fun _ _ => .nil⟩
  | .v d :: r, vs, as, h, e => by
    obtain ⟨x, t, rfl, h1, h2⟩ := h
    simp only [shOf] at e
    obtain ⟨as', e1, rfl⟩ := Option.map_eq_some_iff.mp e
    obtain ⟨ps, a, k⟩ := sh_args I h2 e1
    exact ⟨ps, a, fun O2 hO => .val (Rep.mono (SameR.hide_weak fun a ha => (hO a ha).1) _ _ h1) (k O2 hO)⟩
  | .o i :: r, vs, as, h, e => by
    obtain ⟨x, t, rfl, h1, h2⟩ := h
    simp only [shOf] at e
    split at e
    · rename_i c ec
      split at e
      · rename_i d ed
        obtain ⟨as', e1, rfl⟩ := Option.map_eq_some_iff.mp e
        obtain ⟨ps, a, k⟩ := sh_args I h2 e1
        obtain ⟨q, o, e2, h3, hb, h4, h5⟩ := I.slot i _ ec
        rw [h1] at e2
        cases e2
        refine ⟨q :: ps, fun p hp => ?_, fun O2 hO => .val ?_ (k O2 fun a ha => ⟨(hO a ha).1, fun hm => (hO a ha).2 (List.mem_cons_of_mem _ hm)⟩)⟩
        · rcases List.mem_cons.mp hp with rfl | hp
          · exact ⟨by rw [h4]; simp, hb⟩
          · exact a p hp
        · refine rep_dOf (cm := G.cm) ed (hide_mk h4 ?_) (h5.mono (SameR.hide_weak fun a ha => (hO a ha).1))
          cases z : O2 q with
          | false => rfl
          | true => exact absurd List.mem_cons_self (hO q z).2
      · cases e
    · cases e
section
variable {k n : Nat} {f : Addr} {fd : FuncData} {pn : List Str} {F : Nat → List Sl → Res} {x : Str} {p pos : Pos} {e : Expr} {es : List Expr} {fa : DS → R (List Ar × DS)}
theorem call_argSh {t : TA} (rt : ∀ b O H σ ds Q, DI X.K G b O H σ ds → EPost X.K G b W (ArR X.K σ) H O σ Q (fa ds) → t σ H Q) (fuel : Nat) (lenA : ∀ ds l ds', fa ds = .ok (l, ds') → l.length = n) :
    ∀ b O H σ ds Q, DI X.K G b O H σ ds → EPost X.K G b W (relE X.K) H O σ Q (fCallSh (F fuel) fa ds) → t σ H fun vs H1 => spD X.K G.cm n F vs H1 Q (WE W σ) := by
  intro b O H σ ds Q I h
  refine rt b O H σ ds _ I (EPost.bind h fun l ds1 vs H1 O1 e0 I1 x1 r1 h1 => ?_)
  dsimp only at h1
  split at h1
  · exact h1.elim
  · rename_i as eas
    obtain ⟨ps, hps, ar⟩ := sh_args I1 r1 eas
    have lv : vs.length = n := by
      have : ∀ (l : List Ar) (vs : List V), ArR X.K σ (hide H1 O1) l vs → vs.length = l.length := by
        intro l
        induction l with
        | nil => intro vs h; cases (show vs = [] from h); rfl
        | cons a l ih =>
          intro vs h
          cases a with
          | v d => obtain ⟨x, s, rfl, _, h⟩ := h; simp [ih s h]
          | o i => obtain ⟨x, s, rfl, _, h⟩ := h; simp [ih s h]
      rw [this _ _ r1]
      exact lenA _ _ _ e0
    let O2 : Addr → Bool := fun a => O1 a && !(ps.contains a)
    have hO2 : ∀ a, O2 a = true → O1 a = true ∧ a ∉ ps := fun a ha => by
      have : (O1 a && !(ps.contains a)) = true := ha
      rw [Bool.and_eq_true, Bool.not_eq_true', ← Bool.not_eq_true, List.contains_iff_mem] at this
      exact this
    have hO2' : ∀ a, O2 a = false → O1 a = true → a ∈ ps := fun a ha h1 => by
      have : (O1 a && !(ps.contains a)) = false := ha
      rw [h1, Bool.true_and, Bool.not_eq_false', List.contains_iff_mem] at this
      exact this
    refine ⟨fuel, O2, as, [], lv, fun a ha => I1.trk a (hO2 a ha).1, List.nodup_nil, ar O2 hO2, ?_⟩
    cases e2 : F fuel as with
    | stuck => rw [e2] at h1; exact h1
    | reto c cs => rw [e2] at h1; exact h1.elim
    | exc c cs => rw [e2] at h1; exact h1.elim
    | ret d cs =>
      rw [e2] at h1
      cases cs with
      | cons _ _ => exact h1.elim
      | nil =>
        have h1 : EPost X.K G b W (relE X.K) H1 O1 σ Q (if flatD d = true then .ok (d, ds1) else .stuck) := h1
        split at h1
        · rename_i hf
          intro v H' B r
          have kp : ∀ a, O1 a = true → H' a = H1 a := fun a ha => by
            cases z : O2 a with
            | true => exact B.keep a z (by simp)
            | false =>
              cases eh : H1 a with
              | none => exact absurd eh (hps a (hO2' a z ha)).1
              | some o => exact (hide_of (B.sm a o (hide_mk eh z))).1
          have sm : Same (hide H1 O1) (hide H' O1) := fun a o q => by
            obtain ⟨q1, q2⟩ := hide_of q
            refine hide_mk (hide_of (B.sm a o (hide_mk q1 ?_))).1 q2
            cases z : O2 a with
            | false => rfl
            | true => rw [(hO2 a z).1] at q2; cases q2
          have I2 : DI X.K G b O1 H' σ ds1 := ⟨I1.len, fun i s hs => (I1.slot i s hs).mono (SameR.of sm) fun a o ha _ q => by rw [kp a ha]; exact q, I1.sep, I1.sub, I1.pin, I1.pidx, fun a ha => by rw [kp a ha]; exact I1.trk a ha, I1.new, fun a ha => I1.ent a (B.non a ha)⟩
          exact h1 v H' O1 I2 ⟨fun a ha => kp a (I1.sub a ha), sm, B.non, B.fz⟩ (flat_rep hf r)
        · exact h1.elim
theorem ed_callSh (F0 : FnOk X.prog X.w X.K X.mg X.base (L2.CX X.prog X.w) k f fd pn (spD X.K G.cm n F)) (hr : Room k X.A) (hm : X.mg x = some (.ref f)) (hk : PySem.W.keepIn X.K (.ref f) = true) (hb : Binds X.K fd pn []) (tk : Takes X W) (fuel : Nat) (ha : AA X W G (e :: es) fa)
    (hn : (e :: es).length = n := by rfl) (hg : Gl X x := by rfl) (hdb : (x == ("__debug__" : Str)) = false := by decide) (he : starEach (e :: es) X.env = (false, eval e X.env) :: starEach es X.env := by rfl) (hpl : (backTo pos (starEach es X.env)).any (·.1) = false := by rfl) :
    ED X W G (.Call (.Name x p) (e :: es) [] pos) (fCallSh (F fuel) fa) := by
  obtain ⟨t, pt, rt⟩ := ha.ex
  exact ⟨tCallS (spD X.K G.cm n F) (WE W) t, pe_callS F0 hr hg hm hk hb (fun σ => passAt tk σ) pt hdb he hpl, call_argSh rt fuel fun ds l ds' e => (ha.len ds l ds' e).trans hn⟩
end
end
end DL

/-! DV: new dicts: {k: v} with a tuple key, dict(d), dict comprehensions; new lists: xs + ys, list(text); min -/
namespace DL
open PySem L2
section
variable {X : Cx} {W : WX} {G : Gx}
/-! ### {k: v}, k a tuple of numbers and texts -/
def tDisp1T (tk tv : TE) : TE := fun σ H Q => ∀ p, H p = none → tk σ (upd H p (.dT [])) fun y H1 => tv σ H1 fun z H2 => ∃ b ks, y = .ref b ∧ H2 b = some (.tup (ks.map kV)) ∧ H2 p = some (.dT []) ∧ Q (.ref p) (upd H2 p (.dT (putK [] ks z)))
theorem pe_disp1T {k e : Expr} {tk tv : TE} {pos : Pos} (hu : X.A.units + 1 < cLine) (hk : PE X k tk) (he : PE X e tv) : PE X (.Dict [some k] [e] pos) (tDisp1T tk tv) := by
  refine ⟨fun pins s σ H Q I h => ?_⟩
  have nh := I.hok.fresh (Nat.le_refl s.heap.objs.size)
  have I1 := I.laid (a := s.heap.objs.size) (o := .dT []) (h' := s.heap.push { cls := .type "dict", data := .dict #[] }) (t' := s.toks) (fun _ _ q => Heap.get?_push_of_some _ q) (Nat.le_refl _) (dt_empty s.heap I.big)
  rw [arm_eval_Dict, zip_pairTrees [some k] [e] X.env pos rfl rfl, dictDisplay_pairs _ (by simp [pairTrees]) (by simp [pairTrees])]
  refine wpAny_bind (wpAny_standAt (wpAny_bind ?_))
  unfold subDict
  refine wpAny_bind (wpAny_alloc (wpAny_bind (wpAny_holding ?_)))
  rw [if_pos (by simp [pairTrees])]
  refine wpAny_bind (evalPairs_cons (thn (hk.run pins _ σ _ _ I1 (h _ nh)) fun kv s1 ⟨y, H1, I2, ry, q1⟩ => ?_))
  refine wpAny_bind (thn (he.run pins s1 σ H1 _ I2 q1) fun ev s2 ⟨z, H2, I3, rz, b, ks, ey, hb, hp, q2⟩ => ?_)
  subst ey
  cases ry
  refine wpAny_bind (wpAny_standAt (wpAny_pure (evalPairs_nil ?_)))
  refine wpAny_holding ?_
  rw [List.forIn_cons]
  obtain ⟨zz, hd, xs, rel, dd⟩ := dt_of I3.hok hp
  have hl : (putK ([] : List (List Key × V)) ks z).length ≤ sizeLine := by have := length_putK ([] : List (List Key × V)) ks z; rw [sizeLine_eq]; simp at this; omega
  refine wpAny_bind (wpAny_bind (wpAny_bind (wpAny_dictSet_heap (hsz := by rw [← Paired.length rel]; exact zz) (by show X.A.units < cLine; omega) (key_of I3.hok hb) dd fun h' dd' hs => wpAny_pure ?_)))
  show wpAny _ _ (forIn ([] : List (Value × Value)) PUnit.unit _) _ _ _
  rw [List.forIn_nil]
  refine wpAny_pure (wpAny_pure (wpAny_pure (wpAny_pure ?_)))
  obtain ⟨q, es, ep, hq, h2, h3, h4, _, h5⟩ := dd'
  have I4 := d_write (ob := .dT (putK [] ks z)) (t' := s2.toks + (tupleKind (mixKind X.prog X.w)).draws ks) I3 (by rw [hp]; exact True.intro) hs ⟨q, hq⟩ ⟨hl, hd, _, (rel.put ks hb rz).keeps fun c ys ec => ?_, q, es, ep, hq, h2, h3, h4, h5⟩
  · exact ⟨.ref s.heap.objs.size, _, I4, rfl, q2⟩
  · rw [upd_ne (ne_of ec hp (fun z => nomatch z))]
    exact ec

/-- an owned thing of no name, kept while something else is reckoned -/
theorem OPost.unhold {K : PySem.W.Frag} {b : Bx} {O O1 : Addr → Bool} {H H1 : Hp} {σ : L2.St} {ds : DS} {p : Addr} {c : Ct} (w : Own1 K G b O H σ ds p c) {α β : Type} {rel : Hp → α → β → Prop} {Q : β → Hp → Prop} {r : R (α × DS)}
    (h : ∀ d ds' v H' O', r = .ok (d, ds') → DI K G b O' H' σ ds' → Ext b H O H' O' → Own1 K G b O' H' σ ds' p c → rel (hide H' O') d v → Q v H') (he : ∀ c ds', r ≠ .exc c ds') (hs : r ≠ .stuck) : EPost K G (b.add p) W rel H O σ Q r := by
  match r, h, he, hs with
  | .stuck, _, _, hs => exact absurd rfl hs
  | .exc c ds', _, he, _ => exact absurd rfl (he c ds')
  | .ok (d, ds'), h, _, _ =>
    intro v H' O' I x hv
    obtain ⟨o, w1, w2⟩ := w.at_
    refine h d ds' v H' O' rfl (I.unhold w.nw) x.unhold ⟨I.sub p addO_self, w.nb, fun k ck hk z => ?_, ⟨o, (x.keep p addO_self).trans w1, w2.mono x.same⟩, w.nw⟩ hv
    obtain ⟨q, o', q1, q2, q3, _⟩ := I.own hk
    rw [z] at q1
    cases q1
    rw [show (b.add p).B p = true from addO_self] at q3
    cases q3
def oDisp1T (fk fv : DS → R (D × DS)) (ds : DS) : R (Ct × DS) := (quiet (fk ds)).bind fun p => (quiet (fv p.2)).bind fun q => match p.1 with
  | .tup l => if (asKeys l).isSome = true then .ok (.d 1 [(.tup l, q.1)], q.2) else .stuck
  | _ => .stuck
/-- a new object is another now -/
theorem Own1.put {K : PySem.W.Frag} {b : Bx} {O : Addr → Bool} {H : Hp} {σ : L2.St} {ds : DS} {p : Addr} {c c' : Ct} {o' : HO} (I : DI K G b O H σ ds) (w : Own1 K G b O H σ ds p c) (r : CtR K G.cm (hide H O) c' o') : DI K G b O (L2.upd H p o') σ ds ∧ Ext b H O (L2.upd H p o') O ∧ Own1 K G b O (L2.upd H p o') σ ds p c' := by
  obtain ⟨o, w1, w2⟩ := w.at_
  refine ⟨⟨I.len, fun i s hs => ?_, I.sep, I.sub, I.pin, I.pidx, fun a ha => ?_, I.new, fun a ha => ?_⟩, ⟨fun a ha => upd_ne fun z => ?_, by rw [hide_own w.o]; exact Same.refl _, fun a ha => ?_, fun a ob u ha => ?_⟩, ⟨w.o, w.nb, w.no, ⟨o', upd_same, by rw [hide_own w.o]; exact r⟩, w.nw⟩⟩
  · have q := I.slot i s hs
    cases s with
    | emp => trivial
    | val d => obtain ⟨v, q1, q2⟩ := q; exact ⟨v, q1, by rw [hide_own w.o]; exact q2⟩
    | own ck =>
      obtain ⟨pk, ok, q1, q2, q3, q4, q5⟩ := q
      exact ⟨pk, ok, q1, q2, q3, by rw [upd_ne fun z => w.no i ck hs (by rw [q1, z])]; exact q4, by rw [hide_own w.o]; exact q5⟩
  · by_cases z : a = p
    · subst z; rw [upd_same]; simp
    · rw [upd_ne z]; exact I.trk a ha
  · by_cases z : a = p
    · subst z; rw [upd_same] at ha; cases ha
    · rw [upd_ne z] at ha; exact I.ent a ha
  · subst z; rw [w.nb] at ha; cases ha
  · by_cases z : a = p
    · subst z; rw [upd_same] at ha; cases ha
    · rw [upd_ne z] at ha; exact ha
  · rw [upd_ne fun z => by subst z; rw [w1] at ha; exact w2.nofrz _ _ (Option.some.inj ha)]
    exact ha
/-- a new object, owned by no name -/
theorem DI.fresh1 {K : PySem.W.Frag} {b : Bx} {O : Addr → Bool} {H : Hp} {σ : L2.St} {ds : DS} {p : Addr} {c : Ct} {o : HO} (I : DI K G b O H σ ds) (np : H p = none) (r : CtR K G.cm (hide H O) c o) : Own1 K G b (addO O p) (L2.upd H p o) σ ds p c := by
  refine ⟨addO_self, ?_, fun i c' hi z => ?_, ⟨_, upd_same, r.mono (SameR.of (hide_new np))⟩, I.ent p np⟩
  · cases q : b.B p with
    | false => rfl
    | true => exact absurd np (I.trk p (I.sub p q))
  · obtain ⟨p', o', e', _, _, hp, _⟩ := I.slot i _ hi
    rw [z] at e'
    cases e'
    rw [np] at hp
    cases hp
theorem eo_disp1T {k e : Expr} {fk fv : DS → R (D × DS)} {pos : Pos} (hu : X.A.units + 1 < cLine) (hk : ED X W G k fk) (he : ED X W G e fv) : EO X W G (.Dict [some k] [e] pos) (oDisp1T fk fv) := by
  obtain ⟨tk, pk, rk⟩ := hk.ex
  obtain ⟨tv, pv', rv⟩ := he.ex
  refine ⟨_, pe_disp1T hu pk pv', fun b O H σ ds Q I h p np => ?_⟩
  have I0 := I.made (o := .dT []) np
  have x0 := Ext.made (o := .dT []) I np
  have w0 : Own1 X.K G b (addO O p) (L2.upd H p (.dT [])) σ ds p (.d 1 []) := I.fresh1 np ⟨Nat.zero_le _, .inr ⟨rfl, [], rfl, by unfold RepT; rfl⟩⟩
  have h0 := OPost.step h x0
  unfold oDisp1T at h0
  cases e1 : fk ds with
  | stuck => rw [e1] at h0; exact h0.elim
  | exc c d => rw [e1] at h0; exact h0.elim
  | ok q =>
    rw [e1] at h0
    refine rk (b.add p) _ _ σ ds _ (I0.hold w0) ?_
    rw [e1]
    refine OPost.unhold (O1 := O) (H1 := H) w0 (fun d ds1 v H1 O1 er I1 x1 w1 r1 => ?_) (by simp) (by simp)
    cases er
    have h1 := OPost.step h0 x1
    dsimp only [quiet, R.bind_ok] at h1
    cases e2 : fv ds1 with
    | stuck => rw [e2] at h1; exact h1.elim
    | exc c d => rw [e2] at h1; exact h1.elim
    | ok q =>
      rw [e2] at h1
      refine rv (b.add p) _ _ σ ds1 _ (I1.hold w1) ?_
      rw [e2]
      refine OPost.unhold (O1 := O) (H1 := H) w1 (fun d2 ds2 v2 H2 O2 er I2 x2 w2 r2 => ?_) (by simp) (by simp)
      cases er
      have h2 := OPost.step h1 x2
      dsimp only [quiet, R.bind_ok] at h2
      split at h2
      · rename_i l
        split at h2
        · rename_i hf
          obtain ⟨ks, ek⟩ := Option.isSome_iff_exists.mp hf
          have r1' := Rep.mono x2.same _ _ r1
          unfold Rep at r1'
          obtain ⟨a, xs, rfl, ha, hr, _⟩ := r1'
          obtain ⟨o, o1, o2⟩ := w2.at_
          obtain ⟨_, o2⟩ := o2
          rcases o2 with ⟨z, _⟩ | ⟨_, ks0, rfl, o3⟩
          · cases z
          · unfold RepT at o3
            subst o3
            refine ⟨a, ks, rfl, by rw [← RepL.keys hr ek]; exact (hide_of ha).1, o1, ?_⟩
            obtain ⟨J1, J2, J3⟩ := w2.put I2 (c' := .d 1 [(.tup l, d2)]) (o' := .dT (putK [] ks v2)) ⟨by show 1 ≤ Ln; decide, .inr ⟨rfl, _, rfl, by
              rw [asKeys_eq ek]
              exact RepT.put (kvs := []) ks r2 (by unfold RepT; rfl)⟩⟩
            exact h2 p _ _ J1 J2 J3
        · exact h2.elim
      · exact h2.elim

/-! ### dict(d), d of numbers or texts as keys -/
def oDict (f : DS → R (D × DS)) (ds : DS) : R (Ct × DS) := (f ds).bind fun p => match p.1 with
  | .dic 0 kvs => .ok (.d 0 kvs, p.2)
  | _ => .stuck
theorem eo_dict {e : Expr} {f : DS → R (D × DS)} {p pos : Pos} (hc : X.calm = true) (hm : X.mg "dict" = none) (hv : bootBuiltins "dict" = some (.type "dict")) (he : ED X W G e f) (hg : Gl X "dict" := by rfl) (hs : starEach [e] X.env = (false, eval e X.env) :: starEach [] X.env := by rfl) (hpl : (backTo pos (starEach [] X.env)).any (·.1) = false := by rfl) : EO X W G (.Call (.Name "dict" p) [e] [] pos) (oDict f) := by
  obtain ⟨t, pt, r⟩ := he.ex
  refine ⟨_, pe_callTy call_dictD hg hm hv (pa_cons pt pa_nil hs) (by decide) (by decide) hs hpl, fun b O H σ ds Q I h => ?_⟩
  refine r b O H σ ds _ I (OPost.bind h fun d1 ds1 v1 H1 O1 e91 I1 x1 r1 h1 => ?_)
  dsimp only at h1
  split at h1
  · rename_i kvs
    have r1 : Rep X.K (hide H1 O1) (.dic 0 kvs) v1 := r1
    unfold Rep at r1
    obtain ⟨a, rfl, hl, r1⟩ := r1
    rcases r1 with ⟨_, ks, q, rk⟩ | ⟨z, _⟩
    · exact ⟨a, ks, rfl, SameR.hide_all.rd _ _ nf_dK q, fun p np => h1.made I1 np ⟨hl, .inl ⟨rfl, ks, rfl, rk⟩⟩⟩
    · cases z
  · exact h1.elim

/-! ### xs + ys as a new list; list(text); min -/
def oAddL (fa fb : DS → R (D × DS)) (ds : DS) : R (Ct × DS) := (fa ds).bind fun p => (fb p.2).bind fun q => match p.1, q.1 with
  | .lst a, .lst c => if a.length + c.length ≤ Ln then .ok (.l (a ++ c), q.2) else .stuck
  | _, _ => .stuck
theorem eo_addL {a c : Expr} {fa fb : DS → R (D × DS)} {pos : Pos} (ha : ED X W G a fa) (hb : ED X W G c fb) : EO X W G (.BinOp a .Add c pos) (oAddL fa fb) := by
  obtain ⟨ta, pa, ra⟩ := ha.ex
  obtain ⟨tb, pb, rb⟩ := hb.ex
  refine ⟨_, pe_op op_cat pa pb, fun b O H σ ds Q I h => ?_⟩
  refine ra b O H σ ds _ I (OPost.bind h fun d1 ds1 v1 H1 O1 e91 I1 x1 r1 h1 => ?_)
  refine rb b O1 H1 σ ds1 _ I1 (OPost.bind h1 fun d2 ds2 v2 H2 O2 e92 I2 x2 r2 h2 => ?_)
  dsimp only at h2
  split at h2
  · rename_i a c
    split at h2
    · rename_i hl
      have r1 := Rep.mono x2.same _ _ r1
      have r2 : Rep X.K (hide H2 O2) (.lst c) v2 := r2
      unfold Rep at r1 r2
      obtain ⟨p1, xs, rfl, h1, q1, _⟩ := r1
      obtain ⟨p2, ys, rfl, h2', q2, _⟩ := r2
      refine ⟨p1, p2, xs, ys, rfl, rfl, (hide_of h1).1, (hide_of h2').1, by rw [q1.length, q2.length, Ln_eq]; exact hl, fun p np => h2.made I2 np ⟨_, rfl, q1.append q2, by rw [List.length_append]; exact hl⟩⟩
    · exact h2.elim
  · exact h2.elim
def dMinL : List Int → Option Int
  | [] => none
  | [x] => some x
  | x :: y :: r => (dMinL (y :: r)).map fun m => if x ≤ m then x else m
theorem dMinL_spec : ∀ {l : List Int} {m : Int}, dMinL l = some m → (m ∈ l ∧ ∀ y ∈ l, m ≤ y)
  | [], m, h => by simp [dMinL] at h
  | [x], m, h => by simp [dMinL] at h; subst h; simp
  | x :: y :: r, m, h => by
    simp only [dMinL, Option.map_eq_some_iff] at h
    obtain ⟨k, e, h⟩ := h
    obtain ⟨h1, h2⟩ := dMinL_spec e
    split at h
    · rename_i hx
      subst h
      refine ⟨List.mem_cons_self, fun z hz => ?_⟩
      rcases List.mem_cons.mp hz with rfl | hz
      · exact Int.le_refl _
      · exact Int.le_trans hx (h2 z hz)
    · rename_i hx
      subst h
      refine ⟨List.mem_cons_of_mem _ h1, fun z hz => ?_⟩
      rcases List.mem_cons.mp hz with rfl | hz
      · omega
      · exact h2 z hz
def dMin (l : List D) : Option D := match l with
  | [.lst l] => (intsD l).bind fun bs => (dMinL bs).map .int
  | _ => none
theorem cd_min (hc : X.calm = true) : CallD X (.builtin "min") dMin := by
  refine ⟨_, cr_min hc, fun O H vs ds d Q hO r e k => ?_⟩
  unfold dMin at e
  split at e
  · obtain ⟨bs, eb, e⟩ := Option.bind_eq_some_iff.mp e
    obtain ⟨m, em, rfl⟩ := Option.map_eq_some_iff.mp e
    obtain ⟨v, rfl, rv⟩ := r.one_inv
    unfold Rep at rv
    obtain ⟨a, xs, rfl, g1, g2, _⟩ := rv
    have q1 := g2.ints eb
    obtain ⟨m1, m2⟩ := dMinL_spec em
    refine ⟨a, bs, rfl, by rw [← q1]; exact SqL.of (hide_of g1).1, ?_, fun m' h1 h2 => ?_⟩
    · cases bs with
      | nil => simp at m1
      | cons _ _ => simp
    · have : m' = m := by have := m2 m' h1; have := h2 m m1; omega
      subst this
      exact k _ H (Same.refl _) rep_i
  · cases e
theorem signs_vals : ∀ (l : List Nat) (us : List Value), us.length = l.length → (∀ (j : Nat) (v : Value), us[j]? = some v → ∃ c u, l[j]? = some c ∧ v = .str ⟨#[c]⟩ u) → Vals (l.map fun c => V.str ⟨#[c]⟩) us
  | [], [], _, _ => .nil
  | [], _ :: _, h, _ => by simp at h
  | _ :: _, [], h, _ => by simp at h
  | c :: l, u :: us, h, k => by
    obtain ⟨c', t, e, rfl⟩ := k 0 u rfl
    cases e
    refine .cons ⟨t, rfl⟩ (signs_vals l us (by simpa using h) fun j v hj => k (j + 1) v (by simpa using hj))
theorem call_listS (hc : X.calm = true) : CallR X (.type "list") (fun xs H Q => ∃ z : Str, xs = [.str z] ∧ z.length ≤ sizeLine ∧ ∀ p, H p = none → Q (.ref p) (upd H p (.lst (z.cps.toList.map fun c => V.str ⟨#[c]⟩)))) := by
  intro pins s σ H xs us Q I r h
  obtain ⟨z, rfl, hz, q⟩ := h
  obtain ⟨u, rfl, t, rfl⟩ := vals1 r
  refine PySem.call_list_str (I.ok.hd hc) z t (hn := hz) fun h' tk acc' c' hk hS' hacc => ?_
  have nh := I.hok.fresh (Nat.le_refl s.heap.objs.size)
  have zl : z.cps.toList.length ≤ sizeLine := by have : z.cps.toList.length = z.length := by simp [Str.length]
                                                 rw [this]; exact hz
  refine ⟨.ref s.heap.objs.size, _, I.laid (a := s.heap.objs.size) (o := .lst (z.cps.toList.map fun c => V.str ⟨#[c]⟩)) (h' := h') (t' := tk) hk (Nat.le_refl _) ⟨by rw [List.length_map]; exact zl, acc'.toList, c', ?_, by simpa using hS'⟩, rfl, q _ nh⟩
  refine signs_vals _ _ (by have := hacc.1; simpa using this) fun j v hj => ?_
  obtain ⟨c, u, e1, e2⟩ := hacc.2 j v (by simpa using hj)
  exact ⟨c, u, by simpa using e1, e2⟩
def dList (l : List D) : Option D := match l with
  | [.str s] => some (.lst (s.map fun c => .str [c]))
  | [.lst l] => some (.lst l)
  | [.tup l] => some (.lst l)
  | _ => none
theorem repl_signs {K : PySem.W.Frag} {H : Hp} : ∀ {s : List Nat}, (∀ c ∈ s, c < 128) → RepL K H (s.map fun c => .str [c]) (s.map fun c => V.str ⟨#[c]⟩)
  | [], _ => RepL.nil
  | c :: s, h => RepL.cons (rep_str rfl (okS_mk (by show 1 ≤ Ln; decide) fun x hx => by rw [List.mem_singleton] at hx; subst hx; exact h _ List.mem_cons_self)) (repl_signs fun x hx => h x (List.mem_cons_of_mem _ hx))
theorem cd_list (hc : X.calm = true) : CallD X (.type "list") dList := by
  refine ⟨_, callr_or (call_listS hc) call_list_of, fun O H vs ds d Q hO r e k => ?_⟩
  unfold dList at e
  split at e
  · cases e
    obtain ⟨v, rfl, rv⟩ := r.one_inv
    unfold Rep at rv
    obtain ⟨rfl, hs⟩ := rv
    refine .inl ⟨_, rfl, by rw [sv_length, Ln_eq]; exact okS_len hs, fun p np => k _ _ (same_upd np) ?_⟩
    rw [sv_list]
    exact rep_newL np (hO p np) (repl_signs (okS_asc hs)) (by rw [List.length_map]; exact okS_len hs)
  · cases e
    obtain ⟨v, rfl, rv⟩ := r.one_inv
    unfold Rep at rv
    obtain ⟨a, xs, rfl, g1, g2, g3⟩ := rv
    exact .inr ⟨a, xs, rfl, .inl (SqL.of (hide_of g1).1), fun p np => k _ _ (same_upd np) (rep_newL np (hO p np) g2 g3)⟩
  · cases e
    obtain ⟨v, rfl, rv⟩ := r.one_inv
    unfold Rep at rv
    obtain ⟨a, xs, rfl, g1, g2, g3⟩ := rv
    exact .inr ⟨a, xs, rfl, .inr (SqT.of (hide_of g1).1), fun p np => k _ _ (same_upd np) (rep_newL np (hO p np) g2 g3)⟩
  · cases e

/-! ### {k: v for ..} -/
def dcD (vs : List Nat) (g : TgF) (t : DS → R (Bool × DS)) (fk fv : DS → R (D × DS)) : List D → List (D × D) → DS → R (List (D × D) × DS)
  | [], acc, ds => .ok (acc, ds)
  | x :: xs, acc, ds => if noOwn vs ds = true then (match g x (wipeD ds vs) with
    | none => .stuck
    | some ds1 => (quiet (t ds1)).bind fun p => if p.1 = true then (quiet (fk p.2)).bind fun q => (quiet (fv q.2)).bind fun r => if fitK 0 q.1 = true ∧ acc.length < Ln then dcD vs g t fk fv xs (dput acc q.1 r.1) (backD vs ds r.2) else .stuck else dcD vs g t fk fv xs acc (backD vs ds p.2)) else .stuck
def oDc (vs : List Nat) (fi : DS → R (List D × DS)) (g : TgF) (t : DS → R (Bool × DS)) (fk fv : DS → R (D × DS)) (ds : DS) : R (Ct × DS) := (fi ds).bind fun p => (dcD vs g t fk fv p.1 [] p.2).bind fun r => .ok (.d 0 r.1, r.2)
theorem dc_run {K : PySem.W.Frag} {wi : TI} {fi : DS → R (List D × DS)} {js vs : List Nat} {g : TgF} {t : DS → R (Bool × DS)} {fk fv : DS → R (D × DS)} (hj : ∀ j ∈ js, j ∈ vs)
    (ri : ∀ b O H σ ds Rr, DI K G b O H σ ds → EPost K G b W (ItD K) H O σ Rr (fi ds) → wi σ H Rr) :
    ∀ b O H σ ds Q, DI K G b O H σ ds → OPost K G b W H O σ Q (oDc vs fi g t fk fv ds) → tDc wi (gE K G js g) (tT K G W0 t) (tE K G W0 fk) (tE K G W0 fv) vs σ H Q := by
  intro b O H σ ds Q I h
  refine ri b O H σ ds _ I (OPost.bind h fun items ds1 J H1 O1 e91 I1 x1 it h1 => ?_)
  intro D hD
  dsimp only at h1
  have Own0 := I1.fresh1 (o := .dK []) (c := .d 0 []) hD ⟨Nat.zero_le _, .inl ⟨rfl, [], rfl, by unfold RepK; rfl⟩⟩
  refine ⟨fun i m H2 => m = items.length - i ∧ i ≤ items.length ∧ ∃ O2 ds2 acc, DI K G b O2 H2 σ ds2 ∧ Ext b H1 O1 H2 O2 ∧ Own1 K G b O2 H2 σ ds2 D (.d 0 acc) ∧
      OPost K G b W H2 O2 σ Q ((dcD vs g t fk fv (items.drop i) acc ds2).bind fun r => .ok (.d 0 r.1, r.2)),
    ⟨_, rfl, Nat.zero_le _, addO O1 D, ds1, [], I1.made hD, Ext.made I1 hD, Own0, by simpa using OPost.step h1 (Ext.made I1 hD)⟩, ?_⟩
  rintro i m H2 ⟨rfl, hle, O2, ds2, acc, I2, x2, w2, h2⟩
  by_cases hlt : i < items.length
  · right
    obtain ⟨g1, g2⟩ := it.go H2 O2 x2.sm (fun p np => fresh_O I2 np) i hlt
    refine ⟨g1, _, fun H' q => ⟨items.length - (i + 1), by omega, q⟩, fun x H3 y => ?_⟩
    obtain ⟨s3, rx⟩ := g2 x H3 y
    rw [drop_cons hlt] at h2
    unfold dcD at h2
    split at h2
    · rename_i hno
      cases e1 : g items[i] (wipeD ds2 vs) with
      | none => rw [e1] at h2; exact h2.elim
      | some ds3 =>
        rw [e1] at h2
        have Ih := I2.hold w2
        have I3 := Ih.new' s3
        have x3 : Ext (b.add D) H2 O2 H3 O2 := Ext.new Ih s3
        refine ⟨b.add D, O2, wipeD ds2 vs, _, ds3, I3.wiped hno, rx _ (List.getElem?_eq_getElem hlt), e1, fun σ3 I4 hσ => ?_⟩
        have hw : wipe σ3 vs = wipe σ vs := wipe_congr (by rw [hσ.len, wipe_length]) fun j hjv => hσ.out j fun z => hjv (hj j z)
        refine ⟨hw, b.add D, O2, ds3, I4, ?_⟩
        have h3 := OPost.step h2 x3.unhold
        dsimp only at h3
        have keepW : ∀ {H' O' ds'} (x' : Ext (b.add D) H2 O2 H' O') (I' : DI K G (b.add D) O' H' σ ds'), Own1 K G b O' H' σ ds' D (.d 0 acc) := fun {H' O' ds'} x' I' => by
          obtain ⟨o, w3, w4⟩ := w2.at_
          refine ⟨I'.sub D addO_self, w2.nb, fun k ck hk z => ?_, ⟨o, (x'.keep D addO_self).trans w3, w4.mono x'.same⟩, w2.nw⟩
          obtain ⟨q, o', q1, q2, q3, _⟩ := I'.own hk
          rw [z] at q1
          cases q1
          rw [show (b.add D).B D = true from addO_self] at q3
          cases q3
        cases e2 : t ds3 with
        | stuck => rw [e2] at h3; exact h3.elim
        | exc c d => rw [e2] at h3; exact h3.elim
        | ok q =>
          obtain ⟨bt, ds4⟩ := q
          rw [e2] at h3
          intro v H4 O4 I5 x5 hv
          cases (show bt = v from hv)
          have xx := x3.trans x5
          have h4 := OPost.step h3 x5.unhold
          cases bt with
          | false =>
            have Iu := Ih.unwiped hno xx I5 hw
            exact iteF ⟨rfl, hlt, O4, backD vs ds2 ds4, acc, Iu.unhold w2.nw, x2.trans xx.unhold, keepW xx Iu, h4⟩
          | true =>
            refine iteT ⟨b.add D, O4, ds4, I5, ?_⟩
            have h4 : OPost K G b W H4 O4 σ Q (((quiet (fk ds4)).bind fun q => (quiet (fv q.2)).bind fun r => if fitK 0 q.1 = true ∧ acc.length < Ln then dcD vs g t fk fv (items.drop (i + 1)) (dput acc q.1 r.1) (backD vs ds2 r.2) else .stuck).bind fun r => .ok (.d 0 r.1, r.2)) := h4
            cases e3 : fk ds4 with
            | stuck => rw [e3] at h4; exact h4.elim
            | exc c d => rw [e3] at h4; exact h4.elim
            | ok q =>
              obtain ⟨kd, ds5⟩ := q
              rw [e3] at h4
              intro kv H5 O5 I6 x6 rk
              have h5 := OPost.step h4 x6.unhold
              have h5 : OPost K G b W H5 O5 σ Q (((quiet (fv ds5)).bind fun r => if fitK 0 kd = true ∧ acc.length < Ln then dcD vs g t fk fv (items.drop (i + 1)) (dput acc kd r.1) (backD vs ds2 r.2) else .stuck).bind fun r => .ok (.d 0 r.1, r.2)) := h5
              refine ⟨b.add D, O5, ds5, I6, ?_⟩
              cases e4 : fv ds5 with
              | stuck => rw [e4] at h5; exact h5.elim
              | exc c d => rw [e4] at h5; exact h5.elim
              | ok q =>
                obtain ⟨vd, ds6⟩ := q
                rw [e4] at h5
                intro vv H6 O6 I7 x7 rv
                have h6 := OPost.step h5 x7.unhold
                have h6 : OPost K G b W H6 O6 σ Q ((if fitK 0 kd = true ∧ acc.length < Ln then dcD vs g t fk fv (items.drop (i + 1)) (dput acc kd vd) (backD vs ds2 ds6) else .stuck).bind fun r => .ok (.d 0 r.1, r.2)) := h6
                split at h6
                · rename_i hf
                  obtain ⟨hf, hl⟩ := hf
                  have xy := (xx.trans x6).trans x7
                  have Iu := Ih.unwiped hno xy I7 hw
                  have wD := keepW xy Iu
                  simp only [fitK] at hf
                  obtain ⟨k', ek⟩ := Option.isSome_iff_exists.mp hf
                  obtain ⟨o, o1, o2, o3⟩ := wD.at_
                  rcases o3 with ⟨_, ks, rfl, rks⟩ | ⟨z, _⟩
                  · obtain ⟨J1, J2, J3⟩ := wD.put (Iu.unhold w2.nw) (c' := .d 0 (dput acc kd vd)) (o' := .dK (putK ks k' vv)) ⟨Nat.le_trans (dput_len acc kd vd) hl, .inl ⟨rfl, _, rfl, by rw [asKey_eq ek]; exact RepK.put k' rv rks⟩⟩
                    refine ⟨ks, k', Rep.key rk ek, o1, by rw [rks.length, Ln_eq]; exact hl, rfl, hlt, O6, backD vs ds2 ds6, dput acc kd vd, J1, (x2.trans xy.unhold).trans J2, J3, OPost.step h6 J2⟩
                  · cases z
                · exact h6.elim
    · exact h2.elim
  · left
    have e : i = items.length := by omega
    subst e
    refine ⟨it.stop H2 O2 x2.sm, ?_⟩
    rw [List.drop_length] at h2
    have h2 : OPost K G b W H2 O2 σ Q (.ok (.d 0 acc, ds2)) := h2
    exact h2 D H2 O2 I2 Ext.refl w2
theorem eo_dc {kx vx tg iter : Expr} {ifs : List Expr} {scope : Scope} {own : List (Str × Nat)} {pos : Pos} {fi : DS → R (List D × DS)} {js : List Nat} {g : TgF} {t : DS → R (Bool × DS)} {fk fv : DS → R (D × DS)} (hN : X.N.Nodup) (hi : ID X W G tg iter fi) (ok : BlkOk X.N X.env.scope scope own)
    (hg : ∀ (s : Shared) (H : Hp) (C : Addr) (cl : List (Str × Addr)) (fp : List Addr), GD (X.blk s H scope (compEnvC scope cl C X.env) fp) G tg js g)
    (ht : ∀ (s : Shared) (H : Hp) (C : Addr) (cl : List (Str × Addr)) (fp : List Addr), PTD (X.blk s H scope (compEnvC scope cl C X.env) fp) W0 G ifs t)
    (hk : ∀ (s : Shared) (H : Hp) (C : Addr) (cl : List (Str × Addr)) (fp : List Addr), ED (X.blk s H scope (compEnvC scope cl C X.env) fp) W0 G kx fk)
    (he : ∀ (s : Shared) (H : Hp) (C : Addr) (cl : List (Str × Addr)) (fp : List Addr), ED (X.blk s H scope (compEnvC scope cl C X.env) fp) W0 G vx fv)
    (hj : ∀ j ∈ js, j ∈ own.map (·.2) := by decide) (hc : X.calm = true := by rfl) (hs : ∀ x, foldedSetIterable iter X.env x = pure x := by intro _; rfl) : EO X W G (.DictComp kx vx [⟨tg, iter, ifs, 0⟩] scope pos) (oDc (own.map (·.2)) fi g t fk fv) := by
  obtain ⟨wi, pi, ri⟩ := hi.ex
  exact ⟨_, pe_dc (tk := tE X.K G W0 fk) (tv := tE X.K G W0 fv) (tt := tT X.K G W0 t) (g := gE X.K G js g) hc hN pi ok (fun s H C cl fp => (hg s H C cl fp).pg) (fun s H C cl fp => (ht s H C cl fp).pts) (fun s H C cl fp => (hk s H C cl fp).pe) (fun s H C cl fp => (he s H C cl fp).pe) hs, dc_run hj ri⟩
end
end DL

/-! DW: three names set at once; pops; owned names asked for their length .. -/
namespace DL
open PySem L2
section
variable {X : Cx} {W : WX} {G : Gx}
theorem RepL.three_inv {K : PySem.W.Frag} {H : Hp} {a c d : D} {vs : List V} (h : RepL K H [a, c, d] vs) : ∃ x y z, vs = [x, y, z] ∧ Rep K H a x ∧ Rep K H c y ∧ Rep K H d z := by
  unfold RepL at h
  obtain ⟨x, s, rfl, h1, h2⟩ := h
  obtain ⟨y, z, rfl, h3, h4⟩ := h2.two_inv
  exact ⟨x, y, z, rfl, h1, h3, h4⟩
def sPar3 (i j k : Nat) (f : DS → R (List D × DS)) (ds : DS) : Out := toOut (f ds) fun l ds' => match l with
  | [d, e, g] => .nx (((ds'.set i (.val d)).set j (.val e)).set k (.val g))
  | _ => .stuck
theorem sd_par3 (i j k : Nat) {x y z : Str} {a c e : Expr} {f : DS → R (List D × DS)} {px py pz pt pos : Pos} {kt k2 pt2} (hf : AD X W G [a, c, e] f) (hN : X.N.Nodup) (hp : i ∉ G.ps := by first | decide | exact of_decide_eq_true rfl) (hq : j ∉ G.ps := by first | decide | exact of_decide_eq_true rfl) (hr : k ∉ G.ps := by first | decide | exact of_decide_eq_true rfl)
    (hi : X.N[i]? = some x := by rfl) (hj : X.N[j]? = some y := by rfl) (hl : X.N[k]? = some z := by rfl) (hij : i ≠ j := by decide) (hil : i ≠ k := by decide) (hjl : j ≠ k := by decide)
    (hx : X.env.scope.names.lookup x = some .local := by rfl) (hy : X.env.scope.names.lookup y = some .local := by rfl) (hz : X.env.scope.names.lookup z = some .local := by rfl) (hc : X.calm = true := by rfl)
    (hw : swappedStores [.Tuple [.Name x px, .Name y py, .Name z pz] kt pt] (.Tuple [a, c, e] k2 pt2) X.env = pure (some [x, y, z]) := by rfl)
    (hs : swapsWithSole [.Tuple [.Name x px, .Name y py, .Name z pz] kt pt] (.Tuple [a, c, e] k2 pt2) pos.line X.env = pure false := by rfl) : SD X W G (.Assign [.Tuple [.Name x px, .Name y py, .Name z pz] kt pt] (.Tuple [a, c, e] k2 pt2) pos) (sPar3 i j k f) := by
  obtain ⟨t, p, r⟩ := hf.ex
  refine ⟨_, ps_par3 hc hN hi hj hl hij hil hjl hx hy hz p hw hs, fun b O H σ ds E I h => r b O H σ ds _ I (SPost.eval h fun l ds' vs H' O' e91 I' x91 hr' h' => ?_)⟩
  split at h'
  · rename_i d e g
    obtain ⟨u, v, w, rfl, ru, rv, rw'⟩ := hr'.three_inv
    exact ⟨u, v, w, rfl, h' _ H' O' (((I'.setVal hp ru).setVal hq rv).setVal hr rw') Ext.refl⟩
  · exact h'.elim
end
end DL

/-! DY: x[::-1]; xs.pop(), xs.pop(i) -/
namespace DL
open PySem PySem.Spec PyProof.Rows L2
section
variable {prog : Program} {w : World} {A : Around} {E : Value → Shared → Prop} {s : Shared}
theorem sliceApplied_rev {sl : Addr} {vs : Value} {n : Nat} {Q : Int × Int × Nat → Shared → Prop} (hs : s.heap.IsSliceOf sl .none .none vs) (ps : IsPart vs (some (-1)))
    (h : Q ((n : Int) - 1, -1, n) s) : wpAny (model prog w) A (Builtin.Slice.sliceApplied (.ref sl) (pure (n : Int))) Q E s := by
  obtain ⟨os, hos, hcs, hds⟩ := id hs
  unfold Builtin.Slice.sliceApplied Builtin.Slice.sliceFields
  refine wpAny_bind (wpAny_bind (wpAny_field hos hds (x := .none) rfl (wpAny_bind (wpAny_field hos hds (x := .none) rfl (wpAny_bind (wpAny_field hos hds (x := vs) rfl (wpAny_pure ?_)))))))
  refine wpAny_bind (HT.slicePart_ ps ?_)
  show wpAny _ _ (if ((-1 : Int) == 0) = true then _ else _) _ _ s
  rw [if_neg (by decide)]
  refine wpAny_bind (slicePart_none (wpAny_bind (slicePart_none (wpAny_bind (wpAny_pure ?_)))))
  show wpAny _ _ (match Builtin.Slice.sliceAdjust none none (-1) (n : Int) with | (lo, hi) => pure (lo, (-1 : Int), Builtin.Slice.slicePlaces lo hi (-1))) _ _ s
  have e : Builtin.Slice.sliceAdjust none none (-1) (n : Int) = ((n : Int) - 1, -1) := by simp [Builtin.Slice.sliceAdjust]
  have e2 : Builtin.Slice.slicePlaces ((n : Int) - 1) (-1) (-1) = n := by
    unfold Builtin.Slice.slicePlaces
    rw [if_neg (by decide)]
    by_cases hn : n = 0
    · subst hn; rfl
    · rw [if_pos (by omega), show (-(-1 : Int)) = 1 by decide, Int.ediv_one]; omega
  rw [e]
  show wpAny _ _ (pure ((n : Int) - 1, (-1 : Int), Builtin.Slice.slicePlaces ((n : Int) - 1) (-1) (-1))) _ _ s
  rw [e2]
  exact wpAny_pure h
theorem pick_rev (xs : Array Value) : ((List.range xs.size).filterMap fun (k : Nat) => xs[((xs.size : Int) - 1 + (k : Int) * (-1)).toNat]?).toArray = xs.toList.reverse.toArray := by
  have e : ((List.range xs.size).filterMap fun (k : Nat) => xs[((xs.size : Int) - 1 + (k : Int) * (-1)).toNat]?) = ((List.range xs.size).map fun k => xs.size - 1 - k).filterMap (xs[·]?) := by
    rw [List.filterMap_map]
    refine congrArg (fun f => List.filterMap f (List.range xs.size)) (funext fun k => ?_)
    show xs[((xs.size : Int) - 1 + (k : Int) * (-1)).toNat]? = xs[xs.size - 1 - k]?
    have : ((xs.size : Int) - 1 + (k : Int) * (-1)).toNat = xs.size - 1 - k := by omega
    rw [this]
  rw [e, PySem.W.krv_range, List.filterMap_reverse, PySem.W.krv_all]
theorem getItem_tuple_rev {t sl : Addr} {items : Array Value} {vs : Value} {Q : Value → Shared → Prop} (ht : IsTup s.heap t items) (hs : s.heap.IsSliceOf sl .none .none vs) (ps : IsPart vs (some (-1)))
    (h : Q (.ref s.heap.objs.size) { s with heap := s.heap.push { cls := .type "tuple", data := .seq items.toList.reverse.toArray } })
    (hsz : items.size ≤ sizeLine) : wpAny (model prog w) A (getItem (.ref t) (.ref sl)) Q E s := by
  have htake : sizeOk (.seq items.toList.reverse.toArray) := by
    show items.toList.reverse.toArray.size ≤ sizeLine
    rw [List.size_toArray, List.length_reverse, Array.length_toList]
    exact hsz
  obtain ⟨os, hos, hcs, hds⟩ := id hs
  have hTs : s.TypeIs (.ref sl) "slice" := ⟨os, hos, hcs⟩
  unfold getItem
  try with_reducible refine wpAny_holding ?_
  first | refine wpAny_bind (wpAny_pure ?_) | skip
  refine wpAny_bind (wpAny_sequenceKey ht.typeIs (by decide) ?_)
  refine wpAny_bind (wpAny_callSpecial?_slot (name := Str.ofString "__getitem__") ht.typeIs PyProof.Rows.slot_tuple_getitem
    (wpAny_call_entry PyProof.Rows.slot_tuple_getitem ht.typeIs entry_tuple_getitem ?_ (args_tuple_getitem _ _)))
  show wpAny _ _ (Builtin.Tuple.tupleItemsOf (.ref t) >>= _) _ _ s
  refine wpAny_bind (tupleItemsOf_ ht ?_)
  refine wpAny_bind (wpAny_typeOf hTs ?_)
  rw [if_pos (by decide)]
  refine wpAny_bind (sliceApplied_rev hs ps ?_)
  have hno : ¬ ((((items.size : Int) - 1) == 0 && (-1 : Int) == 1 && items.size == items.size) = true) := by
    rw [show ((-1 : Int) == 1) = false by decide]; simp
  show wpAny _ _ (if (((items.size : Int) - 1) == 0 && (-1 : Int) == 1 && items.size == items.size) = true then _ else _) _ _ s
  rw [if_neg hno, pick_rev]
  first
    | exact wpAny_bind (m := Builtin.Tuple.tupleExact _) (wpAny_newObj_type (wpAny_pure ⟨_, rfl, wpAny_pure h⟩) htake)
    | exact wpAny_bind (m := Builtin.Tuple.tupleExact _) (wpAny_newObj_type (wpAny_bind (wpAny_pure (wpAny_pure ⟨_, rfl, wpAny_pure h⟩))) htake)
    | exact wpAny_bind (wpAny_bind (m := Builtin.Tuple.tupleExact _) (wpAny_newObj_type (wpAny_pure (wpAny_pure ⟨_, rfl, wpAny_pure h⟩)) htake))
    | exact wpAny_bind (wpAny_bind (m := Builtin.Tuple.tupleExact _) (wpAny_newObj_type (wpAny_pure ⟨_, rfl, wpAny_pure h⟩) htake))
end
def revS (z : Str) : Str := ⟨z.cps.toList.reverse.toArray⟩
def tRev (K : PySem.W.Frag) (te : TE) : TE := fun σ H Q => te σ H fun x H1 => (∃ a xs, x = .ref a ∧ SqL K H1 a xs ∧ ∀ p, H1 p = none → Q (.ref p) (upd H1 p (.lst xs.reverse))) ∨
  (∃ a xs, x = .ref a ∧ SqT K H1 a xs ∧ ∀ p, H1 p = none → Q (.ref p) (upd H1 p (.tup xs.reverse))) ∨ (∃ z, x = .str z ∧ z.length ≤ sizeLine ∧ Q (.str (revS z)) H1)
section
variable {X : Cx}
theorem pe_rev {e : Expr} {te : TE} {k : Nat} {p1 p2 p3 pos : Pos} (he : PE X e te) : PE X (.Subscript e (.Slice none none (some (.UnaryOp .USub (.Constant (.int 1) k p1) p2)) p3) pos) (tRev X.K te) := by
  refine ⟨fun pins s σ H Q I h => ?_⟩
  refine Subscript_ (thn (he.run pins s σ H _ I h) fun v s1 ⟨x, H1, I1, r1, q1⟩ => ?_)
  have hst : PO X (some (.UnaryOp .USub (.Constant (.int 1) k p1) p2)) (tPart (tUn (rU fun i => .int (-i)) (tC (.int 1)))) := po_some (pe_un un_neg pe_int)
  refine wpAny_Slice (thn (po_none.run pins s1 σ H1 (fun o H2 => o = none ∧ H2 = H1) I1 ⟨rfl, rfl⟩) fun vl s2 ⟨l, H2, I2, pl, el, e2⟩ => ?_)
  subst el e2
  refine thn (po_none.run pins s2 σ H2 (fun o H3 => o = none ∧ H3 = H2) I2 ⟨rfl, rfl⟩) fun vu s3 ⟨u, H3, I3, pu, eu, e3⟩ => ?_
  subst eu e3
  refine thn (hst.run pins s3 σ H3 (fun o H4 => o = some (-1) ∧ H4 = H3) I3 ⟨1, rfl, -1, rfl, rfl, rfl⟩) fun vs s4 ⟨o, H4, I4, ps, eo, e4⟩ => ?_
  subst eo e4
  have I5 : Inv X pins σ H4 { s4 with heap := s4.heap.push { cls := .type "slice", data := .fields #[vl, vu, vs] } } := I4.kept (t' := s4.toks) fun b ob q => Heap.get?_push_of_some _ q
  cases pl
  cases pu
  rcases q1 with ⟨a, xs, ex, hx, q⟩ | ⟨a, xs, ex, hx, q⟩ | ⟨z, ex, hz, q⟩
  · subst ex
    cases r1
    obtain ⟨its, r, ht, hz⟩ := I5.list hx
    have hlen := r.length
    show wpAny (model X.prog X.w) X.A (subscriptTail e (.Slice none none (some (.UnaryOp .USub (.Constant (.int 1) k p1) p2)) p3) (.ref a) (.ref s4.heap.objs.size)) (EP X pins σ Q) X.xe { s4 with heap := s4.heap.push { cls := .type "slice", data := .fields #[.none, .none, vs] } }
    refine tail_any (ops := [.ref a, .ref s4.heap.objs.size]) ht.isList.typeIs (PySem.slot_list_getitem.lookup) ?_ (by with_unfolding_all rfl)
    refine wpAny_getItem_list_slice ht.isList (Heap.IsSliceOf.new _ .none .none vs) .none .none ps (by decide) ?_ (by rw [List.size_toArray]; omega)
    rw [PySem.W.krv_pick]
    refine ⟨.ref _, _, I5.laid (t' := s4.toks) (o := .lst xs.reverse) (fun b ob q => Heap.get?_push_of_some _ q) (Nat.le_refl _) ?_, rfl, q _ (I5.hok.fresh (Nat.le_refl _))⟩
    exact ⟨by rw [List.length_reverse]; exact hz, _, 0, r.reverse, Heap.get?_push_size _ rfl⟩
  · subst ex
    cases r1
    obtain ⟨its, r, ht, hz⟩ := I5.tuple hx
    have hlen : its.toArray.size = xs.length := by rw [List.size_toArray]; exact r.length.symm
    show wpAny (model X.prog X.w) X.A (subscriptTail e (.Slice none none (some (.UnaryOp .USub (.Constant (.int 1) k p1) p2)) p3) (.ref a) (.ref s4.heap.objs.size)) (EP X pins σ Q) X.xe { s4 with heap := s4.heap.push { cls := .type "slice", data := .fields #[.none, .none, vs] } }
    refine tail_any (ops := [.ref a, .ref s4.heap.objs.size]) ht.typeIs (PyProof.Rows.slot_tuple_getitem.lookup) ?_ (by with_unfolding_all rfl)
    refine getItem_tuple_rev ht (Heap.IsSliceOf.new _ .none .none vs) ps ?_ (by rw [hlen]; exact hz)
    refine ⟨.ref _, _, I5.laid (t' := s4.toks) (o := .tup xs.reverse) (fun b ob q => Heap.get?_push_of_some _ q) (Nat.le_refl _) ?_, rfl, q _ (I5.hok.fresh (Nat.le_refl _))⟩
    exact ⟨by rw [List.length_reverse]; exact hz, _, r.reverse, IsTup.new _ _⟩
  · subst ex
    obtain ⟨t, rfl⟩ := r1
    cases ps with
    | int i t2 =>
      show wpAny (model X.prog X.w) X.A (subscriptTail e (.Slice none none (some (.UnaryOp .USub (.Constant (.int 1) k p1) p2)) p3) (.str z t) (.ref s4.heap.objs.size)) (EP X pins σ Q) X.xe { s4 with heap := s4.heap.push { cls := .type "slice", data := .fields #[.none, .none, .int (-1) t2] } }
      refine tail_any (ops := [.str z t, .ref s4.heap.objs.size]) (typeIs_str _ _ _) (F.slot_str_getitem.lookup) ?_ (by with_unfolding_all rfl)
      refine wpAny_getItem_str_slice (l := none) (u := none) (st := some (-1, t2)) ⟨_, Heap.get?_push_size _ rfl, rfl, rfl⟩ rfl ?_
      have e : Builtin.Str.strSliceIndices none none (-1) z.length = (List.range z.length).reverse := by
        have e1 : Builtin.Str.strSliceIndices none none (-1) z.length = sliceRange ((z.length : Int) - 1) (-1) (-1) := by
          first | rfl | simp [Builtin.Str.strSliceIndices]
        rw [e1, PySem.W.krv_sliceRange, PySem.W.krv_range]
      have hn : ¬ ((-1 : Int) == 1 && (Builtin.Str.strSliceIndices none none (-1) z.length).length == z.length) = true := by
        rw [show ((-1 : Int) == 1) = false by decide]; simp
      have er : ((Builtin.Str.strSliceIndices none none (-1) z.length).filterMap (z.cps[·]?)) = z.cps.toList.reverse := by
        rw [e, List.filterMap_reverse]
        show ((List.range z.cps.size).filterMap (z.cps[·]?)).reverse = _
        have h := pick_run z.cps 0 z.cps.size
        have e0 : (List.range z.cps.size).map (0 + ·) = List.range z.cps.size := by
          rw [show ((0 + ·) : Nat → Nat) = id from funext fun k => Nat.zero_add k, List.map_id]
        rw [e0, List.drop_zero, List.take_of_length_le (by rw [Array.length_toList]; exact Nat.le_refl _)] at h
        rw [h]
      show Made.post (if ((-1 : Int) == 1 && (Builtin.Str.strSliceIndices none none (-1) z.length).length == z.length) = true then Made.val (.str z t)
        else Made.str ⟨((Builtin.Str.strSliceIndices none none (-1) z.length).filterMap (z.cps[·]?)).toArray⟩) (EP X pins σ Q) _
      rw [if_neg hn, er]
      refine ⟨?_, .str (revS z), H4, I5.tok _, ⟨_, rfl⟩, q⟩
      show z.cps.toList.reverse.toArray.size ≤ sizeLine
      rw [List.size_toArray, List.length_reverse, Array.length_toList]
      exact hz
end
def dRev (d : D) : Option D := match d with
  | .lst l => some (.lst l.reverse)
  | .tup l => some (.tup l.reverse)
  | .str s => some (.str s.reverse)
  | _ => none
section
variable {X : Cx} {W : WX} {G : Gx}
theorem revS_sv (s : List Nat) : revS (sv s) = sv s.reverse := by unfold revS sv; simp
theorem okS_rev {s : List Nat} (h : okS s = true) : okS s.reverse = true := okS_mk (by rw [List.length_reverse]; exact okS_len h) fun c hc => okS_asc h c (List.mem_reverse.mp hc)
theorem ed_rev {e : Expr} {f : DS → R (D × DS)} {k : Nat} {p1 p2 p3 pos : Pos} (h : ED X W G e f) : ED X W G (.Subscript e (.Slice none none (some (.UnaryOp .USub (.Constant (.int 1) k p1) p2)) p3) pos) (fUn dRev f) := by
  obtain ⟨t, p, r⟩ := h.ex
  refine ⟨tRev X.K t, pe_rev p, fun b O H σ ds Q I h => ?_⟩
  refine r b O H σ ds _ I (EPost.bind h fun d1 ds1 v1 H1 O1 _ I1 x1 r1 h1 => ?_)
  obtain ⟨d, e, h2⟩ := EPost.lft h1
  cases d1 with
  | lst l =>
    simp only [dRev, Option.some.injEq] at e; subst e
    have r1 : Rep X.K _ (.lst l) v1 := r1
    unfold Rep at r1
    obtain ⟨a, xs, rfl, h3, h4, hl⟩ := r1
    refine .inl ⟨a, xs, rfl, SqL.of (hide_of h3).1, fun p np => h2.grow (rel := relE X.K) I1 (same_upd np) ?_⟩
    show Rep X.K _ (.lst l.reverse) _
    unfold Rep
    exact ⟨p, xs.reverse, rfl, hide_mk upd_same (fresh_O I1 np), RepL.mono (SameR.of (hide_same (same_upd np) O1)) _ _ h4.reverse, by rw [List.length_reverse]; exact hl⟩
  | tup l =>
    simp only [dRev, Option.some.injEq] at e; subst e
    have r1 : Rep X.K _ (.tup l) v1 := r1
    unfold Rep at r1
    obtain ⟨a, xs, rfl, h3, h4, hl⟩ := r1
    refine .inr (.inl ⟨a, xs, rfl, SqT.of (hide_of h3).1, fun p np => h2.grow (rel := relE X.K) I1 (same_upd np) ?_⟩)
    show Rep X.K _ (.tup l.reverse) _
    unfold Rep
    exact ⟨p, xs.reverse, rfl, hide_mk upd_same (fresh_O I1 np), RepL.mono (SameR.of (hide_same (same_upd np) O1)) _ _ h4.reverse, by rw [List.length_reverse]; exact hl⟩
  | str s =>
    simp only [dRev, Option.some.injEq] at e; subst e
    have r1 : Rep X.K _ (.str s) v1 := r1
    unfold Rep at r1
    obtain ⟨rfl, ok⟩ := r1
    refine .inr (.inr ⟨sv s, rfl, by rw [sv_length, Ln_eq]; exact okS_len ok, h2.done (rel := relE X.K) I1 ?_⟩)
    rw [revS_sv]
    exact rep_str rfl (okS_rev ok)
  | non => cases e
  | bl _ => cases e
  | int _ => cases e
  | dic _ _ => cases e
  | op _ => cases e
  | scr _ => cases e
  | ktup _ => cases e
/-! ### pop -/
def fPop (i : Nat) (ds : DS) : R (D × DS) := match ds[i]? with
  | some (.own (.l xs)) => match xs[xs.length - 1]? with
    | some d => .ok (d, ds.set i (.own (.l xs.dropLast)))
    | none => .stuck
  | _ => .stuck
theorem RepL.dropLast {K : PySem.W.Frag} {H : Hp} {ds : List D} {xs : List V} (h : RepL K H ds xs) : RepL K H ds.dropLast xs.dropLast := by
  rw [List.dropLast_eq_take, List.dropLast_eq_take, h.length]
  exact h.take _
theorem RepL.eraseIdx {K : PySem.W.Frag} {H : Hp} {ds : List D} {xs : List V} (k : Nat) (h : RepL K H ds xs) : RepL K H (ds.eraseIdx k) (xs.eraseIdx k) := by
  rw [List.eraseIdx_eq_take_drop_succ, List.eraseIdx_eq_take_drop_succ]
  exact (h.take k).append (h.drop (k + 1))
theorem hide_upd {H : Hp} {O : Addr → Bool} {p : Addr} {o : HO} (h : O p = true) : hide (upd H p o) O = hide H O := hide_own h
theorem ed_pop (i : Nat) {x : Str} {p apos cpos : Pos} (hN : X.N[i]? = some x := by rfl) (hv : Vis X.env.scope x := by first | exact Or.inl rfl | exact Or.inr (Or.inl rfl) | exact Or.inr (Or.inr rfl))
    (hd : (x == ("__debug__" : Str)) = false := by decide) (hcd : (x == ("__classdict__" : Str)) = false := by decide)
    (hbase : attributeBase (.Name x p) "pop" X.env (eval (.Name x p) X.env) = eval (.Name x p) X.env := by rfl)
    (hline : (apos.endLine == cpos.line) = true := by rfl) : ED X W G (.Call (.Attribute (.Name x p) "pop" apos) [] [] cpos) (fPop i) := by
  refine ⟨tBM0 X.K "list" rPop (tVar i), pe_bm0 PySem.F.plainAttrs_list PySem.F.slot_list_pop PySem.F.type_list_pop mt_pop (pe_var hN hv hd hcd) hbase hline, fun b O H σ ds Q I h => ?_⟩
  unfold fPop at h
  split at h
  · rename_i xs0 e0
    obtain ⟨p0, o, e1, hp, hb, h3, ys0, rfl, g5, g6⟩ := I.own e0
    split at h
    · rename_i d ed
      obtain ⟨y, ey, ry⟩ := g5.get ed
      refine ⟨_, e1, .inl ⟨rfl, _, SqL.of h3⟩, p0, ys0, y, rfl, rfl, h3, by rw [g5.length]; exact ey, ?_⟩
      refine h y _ O (I.upd e0 e1 ⟨ys0.dropLast, rfl, g5.dropLast, by rw [List.length_dropLast]; omega⟩) (Ext.upd I e0 e1) ?_
      rw [hide_upd hp]; exact ry
    · exact h.elim
  · exact h.elim
def fPopAt (i : Nat) (fe : DS → R (D × DS)) (ds : DS) : R (D × DS) := match ds[i]? with
  | some (.own (.l _)) => (fe ds).bind fun p => match p.2[i]?, p.1 with
    | some (.own (.l xs)), .int j => (match ixD xs.length j with
      | some m => (match xs[m]? with
        | some d => .ok (d, p.2.set i (.own (.l (xs.eraseIdx m))))
        | none => .stuck)
      | none => .stuck)
    | _, _ => .stuck
  | _ => .stuck
theorem seqIndex_ixD {n : Nat} {i : Int} {m : Nat} (h : ixD n i = some m) : seqIndex? i n = some m ∧ -(n : Int) ≤ i ∧ i < n := by
  unfold ixD at h
  unfold seqIndex?
  by_cases h0 : 0 ≤ i
  · rw [if_pos h0] at h
    by_cases h1 : i < n
    · rw [if_pos h1] at h
      have hn : ¬ i < 0 := by omega
      simp only [hn, if_false]
      rw [if_pos (by simp; exact ⟨h0, h1⟩)]
      exact ⟨h, by omega, h1⟩
    · rw [if_neg h1] at h; cases h
  · rw [if_neg h0] at h
    by_cases h1 : -(n : Int) ≤ i
    · rw [if_pos h1] at h
      have hn : i < 0 := by omega
      simp only [hn, if_true]
      rw [if_pos (by simp; omega)]
      exact ⟨h, h1, by omega⟩
    · rw [if_neg h1] at h; cases h
theorem ed_popAt (i : Nat) {x : Str} {e : Expr} {fe : DS → R (D × DS)} {p apos cpos : Pos} (he : ED X W G e fe) (hN : X.N[i]? = some x := by rfl) (hv : Vis X.env.scope x := by first | exact Or.inl rfl | exact Or.inr (Or.inl rfl) | exact Or.inr (Or.inr rfl))
    (hd : (x == ("__debug__" : Str)) = false := by decide) (hcd : (x == ("__classdict__" : Str)) = false := by decide)
    (hbase : attributeBase (.Name x p) "pop" X.env (eval (.Name x p) X.env) = eval (.Name x p) X.env := by rfl)
    (hfew : ((backTo cpos (starEach [e] X.env)).all (fun x => !x.1) && (backToKw cpos (keywordEach [] X.env)).all (fun x => x.1.isSome)
      && decide ([e].length + ([] : List Keyword).length + (if ([] : List Keyword).isEmpty then 0 else 1) < 30)) = true := by rfl)
    (hline : (apos.endLine == cpos.line) = true := by rfl) (hs0 : starEach [e] X.env = (false, eval e X.env) :: starEach [] X.env := by rfl) (hplain : (backTo cpos (starEach [] X.env)).any (·.1) = false := by rfl) : ED X W G (.Call (.Attribute (.Name x p) "pop" apos) [e] [] cpos) (fPopAt i fe) := by
  obtain ⟨t, pt, r⟩ := he.ex
  refine ⟨tBM X.K "list" rPopAt (tVar i) (tCons t tNil), pe_bm PySem.F.plainAttrs_list PySem.F.slot_list_pop PySem.F.type_list_pop mt_popAt (pe_var hN hv hd hcd) (pa_cons pt pa_nil hs0) hbase hfew hline hs0 hplain, fun b O H σ ds Q I h => ?_⟩
  unfold fPopAt at h
  split at h
  · rename_i xs0 e0
    obtain ⟨p0, o, e1, hp, hb, h3, ys0, rfl, _, _⟩ := I.own e0
    refine ⟨_, e1, .inl ⟨rfl, _, SqL.of h3⟩, r b O H σ ds _ I (EPost.bind h fun d ds' v H' O' eqn I' x' q h' => ?_)⟩
    dsimp only at h'
    split at h'
    · rename_i xs j e2
      obtain ⟨p1, o1, g1, g2, g3, g4, ys, rfl, g5, g6⟩ := I'.own e2
      rw [e1] at g1
      cases g1
      have q : Rep X.K _ (.int j) v := q
      unfold Rep at q
      subst q
      split at h'
      · rename_i m em
        split at h'
        · rename_i d2 ed
          obtain ⟨y, ey, ry⟩ := g5.get ed
          obtain ⟨k1, k2, k3⟩ := seqIndex_ixD em
          have g6' : xs.length ≤ 16777216 := g6
          refine ⟨p0, ys, j, m, y, rfl, rfl, g4, by omega, by omega, by rw [g5.length]; exact k1, ey, ?_⟩
          refine h' y _ O' (I'.upd e2 e1 ⟨ys.eraseIdx m, rfl, g5.eraseIdx m, by rw [List.length_eraseIdx]; split <;> omega⟩) (Ext.upd I' e2 e1) ?_
          rw [hide_upd g2]; exact ry
        · exact h'.elim
      · exact h'.elim
    · exact h'.elim
  · exact h.elim
/-! ### list(x) as a new list of one's own -/
def oListC (f : DS → R (D × DS)) (ds : DS) : R (Ct × DS) := (f ds).bind fun p => match p.1 with
  | .str s => .ok (.l (s.map fun c => .str [c]), p.2)
  | .lst l => .ok (.l l, p.2)
  | .tup l => .ok (.l l, p.2)
  | _ => .stuck
theorem eo_list {e : Expr} {f : DS → R (D × DS)} {p pos : Pos} (hc : X.calm = true) (hm : X.mg "list" = none) (hv : bootBuiltins "list" = some (.type "list")) (he : ED X W G e f) (hg : Gl X "list" := by rfl) (hs : starEach [e] X.env = (false, eval e X.env) :: starEach [] X.env := by rfl) (hpl : (backTo pos (starEach [] X.env)).any (·.1) = false := by rfl) : EO X W G (.Call (.Name "list" p) [e] [] pos) (oListC f) := by
  obtain ⟨t, pt, r⟩ := he.ex
  refine ⟨_, pe_callTy (callr_or (call_listS hc) call_list_of) hg hm hv (pa_cons pt pa_nil hs) (by decide) (by decide) hs hpl, fun b O H σ ds Q I h => ?_⟩
  refine r b O H σ ds _ I (OPost.bind h fun d1 ds1 v1 H1 O1 e91 I1 x1 r1 h1 => ?_)
  dsimp only at h1
  split at h1
  · rename_i s
    have r1 : Rep X.K (hide H1 O1) (.str s) v1 := r1
    unfold Rep at r1
    obtain ⟨rfl, hs⟩ := r1
    refine .inl ⟨_, rfl, by rw [sv_length, Ln_eq]; exact okS_len hs, fun p np => ?_⟩
    rw [sv_list]
    exact h1.made I1 np ⟨_, rfl, repl_signs (okS_asc hs), by rw [List.length_map]; exact okS_len hs⟩
  · rename_i l
    have r1 : Rep X.K (hide H1 O1) (.lst l) v1 := r1
    unfold Rep at r1
    obtain ⟨a, xs, rfl, g1, g2, g3⟩ := r1
    exact .inr ⟨a, xs, rfl, .inl (SqL.of (hide_of g1).1), fun p np => h1.made I1 np ⟨_, rfl, g2, g3⟩⟩
  · rename_i l
    have r1 : Rep X.K (hide H1 O1) (.tup l) v1 := r1
    unfold Rep at r1
    obtain ⟨a, xs, rfl, g1, g2, g3⟩ := r1
    exact .inr ⟨a, xs, rfl, .inr (SqT.of (hide_of g1).1), fun p np => h1.made I1 np ⟨_, rfl, g2, g3⟩⟩
  · exact h1.elim
end
end DL

/-! DZ: list(d.items()), dict(pairs) -/
namespace DL
open PySem PySem.Spec PyProof.Rows L2
/-- list(d.items()), locked or not -/
def tLItems (te : TE) : TE := fun σ H Q => te σ H fun x H1 => ∃ (d : Addr) (kvs : List (Key × V)), x = .ref d ∧ Rd H1 d (.dK kvs) ∧
  ∀ (H' : Hp) (p : Addr) (ts : List Addr), Same H1 H' → H1 p = none → (∀ t ∈ ts, H1 t = none) → H' p = some (.lst (ts.map V.ref)) → Paired (fun (t : Addr) (q : Key × V) => H' t = some (.tup [kV q.1, q.2])) ts kvs → Q (.ref p) H'
section
variable {X : Cx}
theorem pe_lItems {e : Expr} {te : TE} {p apos cpos pos : Pos} (hc : X.calm = true) (he : PE X e te) (hg : Gl X "list") (hm : X.mg "list" = none) (hv : bootBuiltins "list" = some (.type "list")) (hbase : attributeBase e "items" X.env (eval e X.env) = eval e X.env) (hline : (apos.endLine == cpos.line) = true)
    (hs : starEach [.Call (.Attribute e "items" apos) [] [] cpos] X.env = (false, eval (.Call (.Attribute e "items" apos) [] [] cpos) X.env) :: starEach [] X.env) :
    PE X (.Call (.Name "list" p) [.Call (.Attribute e "items" apos) [] [] cpos] [] pos) (tLItems te) := by
  refine ⟨fun pins s σ H Q I hq => wpAny_Call_Name_kw (ld_blt I hg hm hv (PyProof.Rows.callWith_type1 ?_ hs rfl))⟩
  rw [hs]
  show wpAny _ _ (spliced ((false, eval (.Call (.Attribute e "items" apos) [] [] cpos) X.env) :: backTo pos (starEach [] X.env))) _ _ s
  refine Calls.spliced_cons (wpAny_Call_method (T := "dict") (id := "dict.items") hbase rfl hline F.plainAttrs_dict F.slot_dict_items F.type_dict_items (thn (he.run pins s σ H _ I hq) fun u s1 ⟨x, H1, I1, rx, d, kvs, ex, hd, q⟩ => ?_))
  subst ex
  obtain rfl : u = Value.ref d := rx
  obtain ⟨hz, hs0, vs, kv, hdo⟩ := hd.ok I1.hok
  obtain ⟨ep, hat⟩ := hdo.dictAt
  have lk : kvs.length = vs.length := Paired.length kv
  have I2 : Inv X pins σ H1 { s1 with heap := s1.heap.push { cls := .type "dict_items", data := .fields #[.ref d] } } := I1.kept (t' := s1.toks) fun b ob q => Heap.get?_push_of_some _ q
  refine ⟨hdo.typeIs, hdo.mapOf.noDict, ?_⟩
  show wpAny _ _ (callWith cpos (.builtin "dict.items") [.ref d] [] []) _ X.xe s1
  refine method_meetsIn F.slot_dict_items F.entry_dict_items rfl (PySem.evalArgs_none ⟨rfl, hdo.typeIs, F.args_dict_items_1 _, _, meets_dict_items (mixKind X.prog X.w) d hs0, ⟨vs, hdo⟩, Calls.spliced_nil ?_⟩)
  refine PySem.W.kdx_call (knd := mixKind X.prog X.w) (kvs := vs) (ep := ep) (I1.ok.hd hc) ⟨_, Heap.get?_push_size _ rfl, rfl, rfl⟩ (hat.push _) (by omega) fun h' tk acc c as hk hS hl hG hacc => ?_
  obtain ⟨H', k1, k2, k3, _, k5, k6, J⟩ := LiI.items_laid (tk := tk) I2 hz kv hk hS hl hG hacc
  exact ⟨.ref _, H', J, rfl, q H' _ as k1 k2 k3 k5 k6⟩
end
def fListItems (f : DS → R (D × DS)) (ds : DS) : R (D × DS) := (f ds).bind fun p => match p.1 with
  | .dic 0 kvs => if kvs.all (fun kv => okKk kv.1) = true then .ok (.lst (kvs.map fun kv => .tup [kv.1, kv.2]), p.2) else .stuck
  | _ => .stuck
theorem repl_items {K : PySem.W.Frag} {H H' : Hp} {O : Addr → Bool} (s : Same H H') (hO : ∀ p, H p = none → O p = false) : ∀ {kvs : List (D × D)} {ks : List (Key × V)} {ts : List Addr}, RepK K (hide H O) kvs ks → kvs.all (fun kv => okKk kv.1) = true → (∀ t ∈ ts, H t = none) → Paired (fun (t : Addr) (q : Key × V) => H' t = some (.tup [kV q.1, q.2])) ts ks → RepL K (hide H' O) (kvs.map fun kv => .tup [kv.1, kv.2]) (ts.map V.ref)
  | [], ks, ts, h, _, _, p => by
    unfold RepK at h; subst h
    cases p
    exact RepL.nil
  | (k, d) :: r, ks, ts, h, ok, hn, p => by
    unfold RepK at h
    obtain ⟨q, x, t, rfl, rfl, h1, h2⟩ := h
    rw [List.all_cons, Bool.and_eq_true] at ok
    cases p with
    | @cons a _ as _ e es =>
      refine RepL.cons ?_ (repl_items s hO h2 ok.2 (fun t ht => hn t (List.mem_cons_of_mem _ ht)) es)
      unfold Rep
      exact ⟨a, [kV q, x], rfl, hide_mk e (hO _ (hn a List.mem_cons_self)), RepL.cons (rep_keyD ok.1) (RepL.one (Rep.mono (SameR.of (hide_same s O)) _ _ h1)), by show 2 ≤ Ln; decide⟩
section
variable {X : Cx} {W : WX} {G : Gx}
theorem ed_listItems {e : Expr} {f : DS → R (D × DS)} {p apos cpos pos : Pos} (hc : X.calm = true) (hm : X.mg "list" = none) (hv : bootBuiltins "list" = some (.type "list")) (h : ED X W G e f) (hg : Gl X "list" := by rfl) (hbase : attributeBase e "items" X.env (eval e X.env) = eval e X.env := by rfl) (hline : (apos.endLine == cpos.line) = true := by rfl)
    (hs : starEach [.Call (.Attribute e "items" apos) [] [] cpos] X.env = (false, eval (.Call (.Attribute e "items" apos) [] [] cpos) X.env) :: starEach [] X.env := by rfl) :
    ED X W G (.Call (.Name "list" p) [.Call (.Attribute e "items" apos) [] [] cpos] [] pos) (fListItems f) := by
  obtain ⟨t, pt, r⟩ := h.ex
  refine ⟨tLItems t, pe_lItems hc pt hg hm hv hbase hline hs, fun b O H σ ds Q I h => ?_⟩
  refine r b O H σ ds _ I (EPost.bind h fun d1 ds1 v1 H1 O1 eqn I1 x1 r1 h1 => ?_)
  dsimp only at h1
  split at h1
  · rename_i kvs
    split at h1
    · rename_i ok
      have r1 : Rep X.K (hide H1 O1) (.dic 0 kvs) v1 := r1
      unfold Rep at r1
      obtain ⟨a, rfl, hl, r1⟩ := r1
      rcases r1 with ⟨_, ks, q, rk⟩ | ⟨z, _⟩
      · refine ⟨a, ks, rfl, SameR.hide_all.rd _ _ nf_dK q, fun H' p ts s np nt hp hpr => h1.grow (rel := relE X.K) I1 s ?_⟩
        show Rep X.K _ (.lst _) _
        unfold Rep
        exact ⟨p, ts.map V.ref, rfl, hide_mk hp (fresh_O I1 np), repl_items s (fun p np => fresh_O I1 np) rk ok nt hpr, by rw [List.length_map]; exact hl⟩
      · cases z
    · exact h1.elim
  · exact h1.elim
/-! ### dict(pairs) -/
def asPairs : List D → Option (List (D × D))
  | [] => some []
  | .tup [k, v] :: r => if (asKey k).isSome = true then (asPairs r).map ((k, v) :: ·) else none
  | _ :: _ => none
def mergeD (kvs more : List (D × D)) : List (D × D) := more.foldl (fun acc kv => dput acc kv.1 kv.2) kvs
theorem mergeD_len : ∀ (more kvs : List (D × D)), (mergeD kvs more).length ≤ kvs.length + more.length
  | [], kvs => by simp [mergeD]
  | kv :: more, kvs => by
    have h1 := mergeD_len more (dput kvs kv.1 kv.2)
    have h2 := dput_len kvs kv.1 kv.2
    show (mergeD (dput kvs kv.1 kv.2) more).length ≤ _
    rw [List.length_cons]
    omega
theorem RepK.merge {K : PySem.W.Frag} {H : Hp} : ∀ {more : List (D × D)} {ms : List (Key × V)} {kvs : List (D × D)} {ks : List (Key × V)}, RepK K H more ms → RepK K H kvs ks → RepK K H (mergeD kvs more) (mergeK ks ms)
  | [], ms, kvs, ks, h, k => by unfold RepK at h; subst h; exact k
  | (a, d) :: r, ms, kvs, ks, h, k => by
    unfold RepK at h
    obtain ⟨q, x, t, rfl, rfl, h1, h2⟩ := h
    show RepK K H (mergeD (dput kvs (keyD q) d) r) (mergeK (putK ks q x) t)
    exact RepK.merge h2 (RepK.put q h1 k)
theorem pairs_rep {K : PySem.W.Frag} {H H1 : Hp} {O : Addr → Bool} (hh : H = hide H1 O) : ∀ {l : List D} {kvs : List (D × D)} {xs : List V}, asPairs l = some kvs → RepL K H l xs → ∃ (ps : List Addr) (ks : List (Key × V)), xs = ps.map V.ref ∧ Paired (fun p kv => SqT K H1 p [kV kv.1, kv.2]) ps ks ∧ RepK K H kvs ks
  | [], kvs, xs, e, r => by
    unfold RepL at r; subst r
    simp only [asPairs, Option.some.injEq] at e; subst e
    exact ⟨[], [], rfl, .nil, by unfold RepK; rfl⟩
  | d :: l, kvs, xs, e, r => by
    unfold RepL at r
    obtain ⟨x, t, rfl, h1, h2⟩ := r
    unfold asPairs at e
    split at e
    · rename_i eq; cases eq
    · rename_i k v l' eq
      cases eq
      split at e
      · rename_i hk
        obtain ⟨ks0, e1, rfl⟩ := Option.map_eq_some_iff.mp e
        obtain ⟨ps, ks, rfl, p1, p2⟩ := pairs_rep hh e1 h2
        unfold Rep at h1
        obtain ⟨a, ys, rfl, g1, g2, _⟩ := h1
        unfold RepL at g2
        obtain ⟨y, s, rfl, g3, g4⟩ := g2
        unfold RepL at g4
        obtain ⟨z, s2, rfl, g5, g6⟩ := g4
        unfold RepL at g6
        subst g6
        obtain ⟨q, eq⟩ := Option.isSome_iff_exists.mp hk
        have hkD := asKey_eq eq
        have hv := Rep.key g3 eq
        subst hv
        refine ⟨a :: ps, (q, z) :: ks, rfl, .cons ?_ p1, ?_⟩
        · rw [hh] at g1
          exact SqT.of (hide_of g1).1
        · unfold RepK
          exact ⟨q, z, ks, rfl, hkD, g5, p2⟩
      · cases e
    · cases e
theorem asPairs_len : ∀ {l : List D} {kvs : List (D × D)}, asPairs l = some kvs → kvs.length = l.length
  | [], kvs, e => by simp only [asPairs, Option.some.injEq] at e; subst e; rfl
  | d :: l, kvs, e => by
    unfold asPairs at e
    split at e
    · rename_i eq; cases eq
    · rename_i k v l' eq
      cases eq
      split at e
      · obtain ⟨ks0, e1, rfl⟩ := Option.map_eq_some_iff.mp e
        simp [asPairs_len e1]
      · cases e
    · cases e
def oDictP (f : DS → R (D × DS)) (ds : DS) : R (Ct × DS) := (f ds).bind fun p => match p.1 with
  | .lst l => (match asPairs l with
    | some kvs => .ok (.d 0 (mergeD [] kvs), p.2)
    | none => .stuck)
  | _ => .stuck
theorem eo_dictP {e : Expr} {f : DS → R (D × DS)} {p pos : Pos} (hc : X.calm = true) (hm : X.mg "dict" = none) (hv : bootBuiltins "dict" = some (.type "dict")) (he : ED X W G e f) (hg : Gl X "dict" := by rfl) (hs : starEach [e] X.env = (false, eval e X.env) :: starEach [] X.env := by rfl) (hpl : (backTo pos (starEach [] X.env)).any (·.1) = false := by rfl) : EO X W G (.Call (.Name "dict" p) [e] [] pos) (oDictP f) := by
  obtain ⟨t, pt, r⟩ := he.ex
  refine ⟨_, pe_callTy (call_dictP hc) hg hm hv (pa_cons pt pa_nil hs) (by decide) (by decide) hs hpl, fun b O H σ ds Q I h => ?_⟩
  refine r b O H σ ds _ I (OPost.bind h fun d1 ds1 v1 H1 O1 eqn I1 x1 r1 h1 => ?_)
  dsimp only at h1
  split at h1
  · rename_i l
    split at h1
    · rename_i kvs ek
      have r1 : Rep X.K (hide H1 O1) (.lst l) v1 := r1
      unfold Rep at r1
      obtain ⟨a, xs, rfl, g1, g2, g3⟩ := r1
      obtain ⟨ps, ks, rfl, p1, p2⟩ := pairs_rep rfl ek g2
      have hl := asPairs_len ek
      have hm := mergeD_len kvs []
      refine ⟨a, ps, ks, rfl, SqL.of (hide_of g1).1, p1, fun p np => h1.made I1 np ⟨by rw [List.length_nil] at hm; omega, .inl ⟨rfl, _, rfl, RepK.merge p2 (by unfold RepK; rfl)⟩⟩⟩
    · exact h1.elim
  · exact h1.elim
end
end DL

/-! DM: several names set at once, some to what is new and owned -/
namespace DL
open PySem L2
inductive Mx where
  | v (d : D) | o (c : Ct)
section
variable (K : PySem.W.Frag) (G : Gx) (b : Bx)
def MxR (O : Addr → Bool) (H : Hp) (σ : L2.St) (ds : DS) : List Mx → List V → Prop
  | [], vs => vs = []
  | .v d :: r, vs => ∃ x s, vs = x :: s ∧ Rep K (hide H O) d x ∧ MxR O H σ ds r s
  | .o c :: r, vs => ∃ p s, vs = .ref p :: s ∧ Own1 K G b O H σ ds p c ∧ (∀ (i : Nat) (c' : Ct), r[i]? = some (.o c') → s[i]? ≠ some (.ref p)) ∧ MxR O H σ ds r s
def MPost (W : WX) (H : Hp) (O : Addr → Bool) (σ : L2.St) (Q : List V → Hp → Prop) : R (List Mx × DS) → Prop
  | .stuck => False
  | .ok (ms, ds') => ∀ vs H' O', DI K G b O' H' σ ds' → Ext b H O H' O' → MxR K G b O' H' σ ds' ms vs → Q vs H'
  | .exc c ds' => ∀ x H' O', DI K G b O' H' σ ds' → Ext b H O H' O' → W (.ref (G.cm c)) x σ H'
end
structure AM (X : Cx) (W : WX) (G : Gx) (es : List Expr) (f : DS → R (List Mx × DS)) : Prop where
  ex : ∃ t, PA X es t ∧ ∀ b O H σ ds Q, DI X.K G b O H σ ds → MPost X.K G b W H O σ Q (f ds) → t σ H Q
def amNil (ds : DS) : R (List Mx × DS) := .ok ([], ds)
def amV (fa : DS → R (D × DS)) (fr : DS → R (List Mx × DS)) (ds : DS) : R (List Mx × DS) := (fa ds).bind fun p => (fr p.2).bind fun q => .ok (.v p.1 :: q.1, q.2)
def amO (fa : DS → R (Ct × DS)) (fr : DS → R (List Mx × DS)) (ds : DS) : R (List Mx × DS) := (fa ds).bind fun p => (fr p.2).bind fun q => .ok (.o p.1 :: q.1, q.2)
section
variable {K : PySem.W.Frag} {G : Gx} {b : Bx} {W : WX} {H : Hp} {O : Addr → Bool} {σ : L2.St} {ds : DS}
theorem MPost.step {H1 : Hp} {O1 : Addr → Bool} {Q : List V → Hp → Prop} {r : R (List Mx × DS)} (h : MPost K G b W H O σ Q r) (x : Ext b H O H1 O1) : MPost K G b W H1 O1 σ Q r := by
  match r, h with
  | .ok (d, ds'), h => exact fun v H' O' I e q => h v H' O' I (x.trans e) q
  | .exc c ds', h => exact fun y H' O' I e => h y H' O' I (x.trans e)
theorem MxR.two_nodup {O : Addr → Bool} : True := trivial
end
section
variable {X : Cx} {W : WX} {G : Gx}
theorem am_nil : AM X W G [] amNil := ⟨tNil, pa_nil, fun b O H σ ds Q I h => h [] H O I Ext.refl rfl⟩
theorem am_val {e : Expr} {es : List Expr} {fa : DS → R (D × DS)} {fr : DS → R (List Mx × DS)} (ha : ED X W G e fa) (hr : AM X W G es fr) (hs : starEach (e :: es) X.env = (false, eval e X.env) :: starEach es X.env := by rfl) : AM X W G (e :: es) (amV fa fr) := by
  obtain ⟨ta, pa, ra⟩ := ha.ex
  obtain ⟨tr, pr, rr⟩ := hr.ex
  refine ⟨tCons ta tr, pa_cons pa pr hs, fun b O H σ ds Q I h => ra b O H σ ds _ I ?_⟩
  unfold amV at h
  match e1 : fa ds, h with
  | .stuck, h => exact h
  | .exc c d, h => exact h
  | .ok (d, ds1), h =>
    intro v H1 O1 I1 x1 r1
    refine rr b O1 H1 σ ds1 _ I1 ?_
    have h1 := MPost.step h x1
    simp only [R.bind_ok] at h1
    match e2 : fr ds1, h1 with
    | .stuck, h1 => exact h1
    | .exc c d, h1 => exact h1
    | .ok (ms, ds2), h1 =>
      intro vs H2 O2 I2 x2 m2
      exact h1 (v :: vs) H2 O2 I2 x2 ⟨v, vs, rfl, Rep.mono x2.same _ _ r1, m2⟩
theorem MxR.unhold {K : PySem.W.Frag} {b : Bx} {O : Addr → Bool} {H : Hp} {σ : L2.St} {ds : DS} {p : Addr} : ∀ {ms : List Mx} {vs : List V}, MxR K G (b.add p) O H σ ds ms vs → MxR K G b O H σ ds ms vs ∧ ∀ (i : Nat) (c' : Ct), ms[i]? = some (.o c') → vs[i]? ≠ some (.ref p)
  | [], vs, h => ⟨h, fun i c' e => by simp at e⟩
  | .v d :: r, vs, h => by
    obtain ⟨x, s, rfl, h1, h2⟩ := h
    obtain ⟨k1, k2⟩ := MxR.unhold h2
    refine ⟨⟨x, s, rfl, h1, k1⟩, fun i c' e => ?_⟩
    cases i with
    | zero => simp at e
    | succ i => exact k2 i c' (by simpa using e)
  | .o c :: r, vs, h => by
    obtain ⟨q, s, rfl, h1, h2, h3⟩ := h
    obtain ⟨k1, k2⟩ := MxR.unhold h3
    have nb : b.B q = false := by
      cases z : b.B q with
      | false => rfl
      | true => have := h1.nb; rw [show (b.add p).B q = true from addO_of z] at this; cases this
    have ne : q ≠ p := fun z => by have := h1.nb; rw [z, show (b.add p).B p = true from addO_self] at this; cases this
    refine ⟨⟨q, s, rfl, ⟨h1.o, nb, h1.no, h1.at_, h1.nw⟩, h2, k1⟩, fun i c' e => ?_⟩
    cases i with
    | zero => simpa using ne
    | succ i => exact k2 i c' (by simpa using e)
theorem am_own {e : Expr} {es : List Expr} {fa : DS → R (Ct × DS)} {fr : DS → R (List Mx × DS)} (ha : EO X W G e fa) (hr : AM X W G es fr) (hs : starEach (e :: es) X.env = (false, eval e X.env) :: starEach es X.env := by rfl) : AM X W G (e :: es) (amO fa fr) := by
  obtain ⟨ta, pa, ra⟩ := ha.ex
  obtain ⟨tr, pr, rr⟩ := hr.ex
  refine ⟨tCons ta tr, pa_cons pa pr hs, fun b O H σ ds Q I h => ra b O H σ ds _ I ?_⟩
  unfold amO at h
  match e1 : fa ds, h with
  | .stuck, h => exact h
  | .exc c d, h => exact h
  | .ok (c, ds1), h =>
    intro p H1 O1 I1 x1 w
    refine rr (b.add p) O1 H1 σ ds1 _ (I1.hold w) ?_
    have h1 := MPost.step h x1
    simp only [R.bind_ok] at h1
    match e2 : fr ds1, h1 with
    | .stuck, h1 => exact h1
    | .exc c d, h1 => exact fun x H2 O2 I2 x2 => h1 x H2 O2 (I2.unhold w.nw) x2.unhold
    | .ok (ms, ds2), h1 =>
      intro vs H2 O2 I2 x2 m2
      obtain ⟨k1, k2⟩ := MxR.unhold m2
      obtain ⟨o, w1, w2⟩ := w.at_
      refine h1 (.ref p :: vs) H2 O2 (I2.unhold w.nw) x2.unhold ⟨p, vs, rfl, ⟨I2.sub p addO_self, w.nb, fun k ck hk z => ?_, ⟨o, (x2.keep p addO_self).trans w1, w2.mono x2.same⟩, w.nw⟩, k2, k1⟩
      obtain ⟨q, o', q1, q2, q3, _⟩ := I2.own hk
      rw [z] at q1
      cases q1
      rw [show (b.add p).B p = true from addO_self] at q3
      cases q3
def putM : List Nat → List Mx → DS → DS
  | i :: is, .v d :: r, ds => putM is r (ds.set i (.val d))
  | i :: is, .o c :: r, ds => putM is r (ds.set i (.own c))
  | _, _, ds => ds
def putV : List Nat → List V → L2.St → L2.St
  | i :: is, v :: r, σ => putV is r (σ.set i (some v))
  | _, _, σ => σ
theorem Own1.setAt {K : PySem.W.Frag} {b : Bx} {O : Addr → Bool} {H : Hp} {σ : L2.St} {ds : DS} {p : Addr} {c : Ct} {i : Nat} {v : V} {sl : Sl} (w : Own1 K G b O H σ ds p c) (hl : σ.length = ds.length) (h : ∀ c', sl = .own c' → v ≠ .ref p) : Own1 K G b O H (σ.set i (some v)) (ds.set i sl) p c := by
  refine ⟨w.o, w.nb, fun j cj hj z => ?_, w.at_, w.nw⟩
  rcases set_cases hj with ⟨rfl, e, hlt⟩ | ⟨n, hj⟩
  · rw [List.getElem?_set_self (by rw [hl]; exact hlt)] at z
    cases z
    exact h cj e.symm rfl
  · rw [get_set_ne (Ne.symm n)] at z
    exact w.no j cj hj z
theorem MxR.setAt {K : PySem.W.Frag} {b : Bx} {O : Addr → Bool} {H : Hp} {σ : L2.St} {ds : DS} {i : Nat} {v : V} {sl : Sl} (hl : σ.length = ds.length) : ∀ {ms : List Mx} {vs : List V}, MxR K G b O H σ ds ms vs → (∀ c', sl = .own c' → ∀ (i : Nat) (c' : Ct), ms[i]? = some (.o c') → vs[i]? ≠ some v) → MxR K G b O H (σ.set i (some v)) (ds.set i sl) ms vs
  | [], vs, h, _ => h
  | .v d :: r, vs, h, k => by
    obtain ⟨x, s, rfl, h1, h2⟩ := h
    exact ⟨x, s, rfl, h1, MxR.setAt hl h2 fun c' e j c2 q => by have := k c' e (j + 1) c2 (by simpa using q); simpa using this⟩
  | .o c :: r, vs, h, k => by
    obtain ⟨q, s, rfl, h1, h2, h3⟩ := h
    refine ⟨q, s, rfl, h1.setAt hl fun c' e z => ?_, h2, MxR.setAt hl h3 fun c' e j c2 q => by have := k c' e (j + 1) c2 (by simpa using q); simpa using this⟩
    have := k c' e 0 c rfl
    exact this (by rw [z]; rfl)
theorem DI.putM {K : PySem.W.Frag} {b : Bx} {O : Addr → Bool} {H : Hp} : ∀ {is : List Nat} {ms : List Mx} {vs : List V} {σ : L2.St} {ds : DS}, DI K G b O H σ ds → MxR K G b O H σ ds ms vs → (∀ i ∈ is, i ∉ G.ps) → DI K G b O H (putV is vs σ) (DL.putM is ms ds)
  | [], ms, vs, σ, ds, I, _, _ => I
  | i :: is, [], vs, σ, ds, I, h, _ => by
    cases (show vs = [] from h)
    exact I
  | i :: is, .v d :: r, vs, σ, ds, I, h, hp => by
    obtain ⟨x, s, rfl, h1, h2⟩ := h
    have := DI.putM (is := is) (ms := r) (vs := s) (σ := σ.set i (some x)) (ds := ds.set i (.val d)) (I.setVal (hp i List.mem_cons_self) h1) (h2.setAt I.len fun c' e => by cases e) fun j hj => hp j (List.mem_cons_of_mem _ hj)
    exact this
  | i :: is, .o c :: r, vs, σ, ds, I, h, hp => by
    obtain ⟨q, s, rfl, h1, h2, h3⟩ := h
    have := DI.putM (is := is) (ms := r) (vs := s) (σ := σ.set i (some (.ref q))) (ds := ds.set i (.own c)) (I.setOwn (hp i List.mem_cons_self) h1) (h3.setAt I.len fun c' e => h2) fun j hj => hp j (List.mem_cons_of_mem _ hj)
    exact this
theorem MxR.len {K : PySem.W.Frag} {b : Bx} {O : Addr → Bool} {H : Hp} {σ : L2.St} {ds : DS} : ∀ {ms : List Mx} {vs : List V}, MxR K G b O H σ ds ms vs → vs.length = ms.length
  | [], vs, h => by cases (show vs = [] from h); rfl
  | .v d :: r, vs, h => by obtain ⟨x, s, rfl, _, h2⟩ := h; simp [MxR.len h2]
  | .o c :: r, vs, h => by obtain ⟨q, s, rfl, _, _, h2⟩ := h; simp [MxR.len h2]
/-- a, b = e, f; some of them new -/
def sMix (is : List Nat) (f : DS → R (List Mx × DS)) (ds : DS) : Out := toOut (f ds) fun ms ds' => if ms.length = is.length then .nx (putM is ms ds') else .stuck
theorem SPost.evalM {K : PySem.W.Frag} {b : Bx} {H : Hp} {O : Addr → Bool} {σ : L2.St} {E : Ends} {r : R (List Mx × DS)} {k : List Mx → DS → Out} {Q : List V → Hp → Prop}
    (h : SPost K G b W H O E (toOut r k)) (f : ∀ ms ds' vs H' O', r = .ok (ms, ds') → DI K G b O' H' σ ds' → Ext b H O H' O' → MxR K G b O' H' σ ds' ms vs → SPost K G b W H' O' E (k ms ds') → Q vs H') : MPost K G b W H O σ Q r := by
  match r, h with
  | .ok (d, ds'), h => exact fun v H' O' I e q => f d ds' v H' O' rfl I e q (h.step e)
  | .exc c ds', h => exact fun x H' O' I e => h x σ H' O' I e
theorem sd_mix2 (i j : Nat) {x y : Str} {a c : Expr} {f : DS → R (List Mx × DS)} {px py pt pos : Pos} {kt k2 pt2} (hf : AM X W G [a, c] f) (hN : X.N.Nodup) (hp : i ∉ G.ps := by first | decide | exact of_decide_eq_true rfl) (hq : j ∉ G.ps := by first | decide | exact of_decide_eq_true rfl) (hi : X.N[i]? = some x := by rfl) (hj : X.N[j]? = some y := by rfl) (hij : i ≠ j := by decide)
    (hx : X.env.scope.names.lookup x = some .local := by rfl) (hy : X.env.scope.names.lookup y = some .local := by rfl) (hc : X.calm = true := by rfl)
    (hw : swappedStores [.Tuple [.Name x px, .Name y py] kt pt] (.Tuple [a, c] k2 pt2) X.env = pure (some [x, y]) := by rfl)
    (hs : swapsWithSole [.Tuple [.Name x px, .Name y py] kt pt] (.Tuple [a, c] k2 pt2) pos.line X.env = pure false := by rfl) : SD X W G (.Assign [.Tuple [.Name x px, .Name y py] kt pt] (.Tuple [a, c] k2 pt2) pos) (sMix [i, j] f) := by
  obtain ⟨t, p, r⟩ := hf.ex
  refine ⟨_, ps_par hc hN hi hj hij hx hy p hw hs, fun b O H σ ds E I h => r b O H σ ds _ I (SPost.evalM h fun ms ds' vs H' O' eqn I' x' hr h' => ?_)⟩
  split at h'
  · rename_i hl
    have hv := hr.len
    match vs, hv, hr with
    | [], hv, _ => rw [hl] at hv; cases hv
    | [v], hv, _ => rw [hl] at hv; simp at hv
    | [v, w], _, hr => exact ⟨v, w, rfl, h' _ H' O' (I'.putM (is := [i, j]) (vs := [v, w]) hr fun k hk => by
        simp only [List.mem_cons, List.not_mem_nil, or_false] at hk
        rcases hk with rfl | rfl
        · exact hp
        · exact hq) Ext.refl⟩
    | _ :: _ :: _ :: _, hv, _ => rw [hl] at hv; simp at hv
  · exact h'.elim
theorem sd_mix3 (i j k : Nat) {x y z : Str} {a c e : Expr} {f : DS → R (List Mx × DS)} {px py pz pt pos : Pos} {kt k2 pt2} (hf : AM X W G [a, c, e] f) (hN : X.N.Nodup) (hp : i ∉ G.ps := by first | decide | exact of_decide_eq_true rfl) (hq : j ∉ G.ps := by first | decide | exact of_decide_eq_true rfl) (hr0 : k ∉ G.ps := by first | decide | exact of_decide_eq_true rfl)
    (hi : X.N[i]? = some x := by rfl) (hj : X.N[j]? = some y := by rfl) (hl : X.N[k]? = some z := by rfl) (hij : i ≠ j := by decide) (hil : i ≠ k := by decide) (hjl : j ≠ k := by decide)
    (hx : X.env.scope.names.lookup x = some .local := by rfl) (hy : X.env.scope.names.lookup y = some .local := by rfl) (hz : X.env.scope.names.lookup z = some .local := by rfl) (hc : X.calm = true := by rfl)
    (hw : swappedStores [.Tuple [.Name x px, .Name y py, .Name z pz] kt pt] (.Tuple [a, c, e] k2 pt2) X.env = pure (some [x, y, z]) := by rfl)
    (hs : swapsWithSole [.Tuple [.Name x px, .Name y py, .Name z pz] kt pt] (.Tuple [a, c, e] k2 pt2) pos.line X.env = pure false := by rfl) : SD X W G (.Assign [.Tuple [.Name x px, .Name y py, .Name z pz] kt pt] (.Tuple [a, c, e] k2 pt2) pos) (sMix [i, j, k] f) := by
  obtain ⟨t, p, r⟩ := hf.ex
  refine ⟨_, ps_par3 hc hN hi hj hl hij hil hjl hx hy hz p hw hs, fun b O H σ ds E I h => r b O H σ ds _ I (SPost.evalM h fun ms ds' vs H' O' eqn I' x' hr h' => ?_)⟩
  split at h'
  · rename_i hl2
    have hv := hr.len
    match vs, hv, hr with
    | [], hv, _ => rw [hl2] at hv; cases hv
    | [v], hv, _ => rw [hl2] at hv; simp at hv
    | [v, w], hv, _ => rw [hl2] at hv; simp at hv
    | [u, v, w], _, hr => exact ⟨u, v, w, rfl, h' _ H' O' (I'.putM (is := [i, j, k]) (vs := [u, v, w]) hr fun m hm => by
        simp only [List.mem_cons, List.not_mem_nil, or_false] at hm
        rcases hm with rfl | rfl | rfl
        · exact hp
        · exact hq
        · exact hr0) Ext.refl⟩
    | _ :: _ :: _ :: _ :: _, hv, _ => rw [hl2] at hv; simp at hv
  · exact h'.elim
end
end DL

/-! the denotations of law_k06_whole_difference, printed by gen.py -/
namespace LW
open PySem L2 DL
def B_is_over  (fuel : Nat) : DS → Out := sRet (fAnd (fCall dIsi (aCons (vGet 0) (aCons (vC (.op (.ty "str"))) (aNil)))) (fAnd (fChain dLe dLe (vGet 2) (fCall dLen (aCons (vGet 0) (aNil))) (vGet 3)) (fCall dAll (aCons (ofO (oLc [4] (iSeq (vGet 0)) (gSet 4) (bYes) (fBin dIn (vGet 4) (vGet 1)))) (aNil)))))
def F_is_over : Nat → List Sl → Res := defD [] 5 B_is_over
def B_are_parts (c0 : Nat → List Sl → Res) (c1 : Nat → List Sl → Res) (fuel : Nat) : DS → Out := sSeq (sIf (bOr (bNot (toB (fCall dIsi (aCons (vGet 0) (aCons (vC (.op (.ty "tuple"))) (aNil)))))) (bNot (toB (fChain dLe dLe (vC (.int 1)) (fCall dLen (aCons (vGet 0) (aNil))) (vC (.int 6)))))) (sRet (vC (.bl false))) (sNx)) (sSeq (sIf (bNot (toB (fCall dAll (aCons (ofO (oLc [3] (iSeq (vGet 0)) (gSet 3) (bYes) (fCallF (c1 fuel) (aaVal (vGet 3) (aaVal (vGet 1) (aaNil)))))) (aNil))))) (sRet (vC (.bl false))) (sNx)) (sSeq (sSetL 2 (oLc [3] (iSeq (vGet 0)) (gSet 3) (toB (fBin dNe (fBin dGetI (vGet 3) (vC (.int 0))) (vC (.str [116, 101, 120, 116])))) (fBin dGetI (vGet 3) (vC (.int 1))))) (sRet (fBin dEq (fCall dLen (aCons (vGet 2) (aNil))) (fLenSet (vGet 2))))))
def B_is_part_i0 (c0 : Nat → List Sl → Res) (c1 : Nat → List Sl → Res) (fuel : Nat) : DS → Out := sRet (fAnd (fBin dEq (fCall dLen (aCons (vGet 0) (aNil))) (vC (.int 2))) (fCallF (F_is_over fuel) (aaVal (fBin dGetI (vGet 0) (vC (.int 1))) (aaVal (vC (.str [97, 98, 99, 100, 101, 102, 103, 104, 105, 106, 107, 108, 109, 110, 111, 112, 113, 114, 115, 116, 117, 118, 119, 120, 121, 122, 32, 46, 44, 58, 45, 47])) (aaVal (vC (.int 1)) (aaVal (vC (.int 6)) (aaNil)))))))
def B_is_part_i1 (c0 : Nat → List Sl → Res) (c1 : Nat → List Sl → Res) (fuel : Nat) : DS → Out := sRet (fAnd (fBin dEq (fCall dLen (aCons (vGet 0) (aNil))) (vC (.int 3))) (fAnd (fBin dGt (vGet 1) (vC (.int 0))) (fCallF (c0 fuel) (aaVal (fBin dGetI (vGet 0) (vC (.int 2))) (aaVal (fBin dSub (vGet 1) (vC (.int 1))) (aaNil))))))
def B_is_part (c0 : Nat → List Sl → Res) (c1 : Nat → List Sl → Res) (fuel : Nat) : DS → Out := sSeq (sIf (bOr (bNot (toB (fCall dIsi (aCons (vGet 0) (aCons (vC (.op (.ty "tuple"))) (aNil)))))) (bOr (toB (fBin dLt (fCall dLen (aCons (vGet 0) (aNil))) (vC (.int 2)))) (bNot (toB (fCall dIsi (aCons (fBin dGetI (vGet 0) (vC (.int 0))) (aCons (vC (.op (.ty "str"))) (aNil)))))))) (sRet (vC (.bl false))) (sNx)) (sSeq (sAsg (fBin dGetI (vGet 0) (vC (.int 0))) (gSet 2)) (sSeq (sIf (toB (fBin dEq (vGet 2) (vC (.str [116, 101, 120, 116])))) (B_is_part_i0 c0 c1 fuel) (sNx)) (sSeq (sIf (bNot (toB (fCallF (F_is_over fuel) (aaVal (fBin dGetI (vGet 0) (vC (.int 1))) (aaVal (vC (.str [97, 98, 99, 100, 101, 102, 103, 104, 105, 106, 107, 108, 109, 110, 111, 112, 113, 114, 115, 116, 117, 118, 119, 120, 121, 122])) (aaVal (vC (.int 1)) (aaVal (vC (.int 4)) (aaNil)))))))) (sRet (vC (.bl false))) (sNx)) (sSeq (sIf (toB (fBin dEq (vGet 2) (vC (.str [102, 105, 101, 108, 100])))) (sRet (fBin dEq (fCall dLen (aCons (vGet 0) (aNil))) (vC (.int 2)))) (sNx)) (sSeq (sIf (toB (fBin dEq (vGet 2) (vC (.str [105, 102])))) (B_is_part_i1 c0 c1 fuel) (sNx)) (sSeq (sIf (bOr (toB (fBin dNe (vGet 2) (vC (.str [101, 97, 99, 104])))) (bOr (toB (fBin dNe (fCall dLen (aCons (vGet 0) (aNil))) (vC (.int 4)))) (bOr (toB (fBin dEq (vGet 1) (vC (.int 0)))) (bNot (toB (fCallF (F_is_over fuel) (aaVal (fBin dGetI (vGet 0) (vC (.int 2))) (aaVal (vC (.str [97, 98, 99, 100, 101, 102, 103, 104, 105, 106, 107, 108, 109, 110, 111, 112, 113, 114, 115, 116, 117, 118, 119, 120, 121, 122, 32, 46, 44, 58, 45, 47])) (aaVal (vC (.int 0)) (aaVal (vC (.int 3)) (aaNil))))))))))) (sRet (vC (.bl false))) (sNx)) (sRet (fAnd (fCallF (c0 fuel) (aaVal (fBin dGetI (vGet 0) (vC (.int 3))) (aaVal (fBin dSub (vGet 1) (vC (.int 1))) (aaNil)))) (fCall dAny (aCons (ofO (oLc [3] (iSeq (fBin dGetI (vGet 0) (vC (.int 3)))) (gSet 3) (bYes) (fBin dEq (fBin dGetI (vGet 3) (vC (.int 0))) (vC (.str [102, 105, 101, 108, 100]))))) (aNil)))))))))))
def G_are_parts (r : Nat) : Nat → Nat → List Sl → Res := Nat.rec (motive := fun _ => Nat → Nat → List Sl → Res) (fun _ _ _ => .stuck) (fun _ h j => if j = 0 then defD [] 4 (B_are_parts (h 0) (h 1)) else defD [] 4 (B_is_part (h 0) (h 1))) r
abbrev F_are_parts (r : Nat) : Nat → List Sl → Res := G_are_parts r 0
abbrev F_is_part (r : Nat) : Nat → List Sl → Res := G_are_parts r 1
def B_inner  (fuel : Nat) : DS → Out := sRet (fIf (toB (fBin dIn (fBin dGetI (vGet 0) (vC (.int 0))) (mkTup (aCons (vC (.str [105, 102])) (aCons (vC (.str [101, 97, 99, 104])) (aNil)))))) (fBin dGetI (vGet 0) (fUn dNeg (vC (.int 1)))) (mkTup (aNil)))
def F_inner : Nat → List Sl → Res := defD [] 1 B_inner
def B_many_parts (c0 : Nat → List Sl → Res) (fuel : Nat) : DS → Out := sSeq (sSetL 1 (oLc [3] (iSeq (vGet 0)) (gSet 3) (bYes) (fCallF (c0 fuel) (aaVal (fCallF (F_inner fuel) (aaVal (vGet 3) (aaNil))) (aaNil))))) (sSeq (sAsg (fCall dLen (aCons (ofO (oLc [3] (iSeq (vGet 0)) (gSet 3) (toB (fBin dNe (fCallF (F_inner fuel) (aaVal (vGet 3) (aaNil))) (mkTup (aNil)))) (vGet 3))) (aNil))) (gSet 2)) (sRet (mkTup (aCons (fBin dAdd (fCall dLen (aCons (vGet 0) (aNil))) (fCall dSum (aCons (ofO (oLc [4] (iSeq (vGet 1)) (gSet 4) (bYes) (fBin dGetI (vGet 4) (vC (.int 0))))) (aNil)))) (aCons (fBin dAdd (vGet 2) (fCall dSum (aCons (ofO (oLc [4] (iSeq (vGet 1)) (gSet 4) (bYes) (fBin dGetI (vGet 4) (vC (.int 1))))) (aNil)))) (aNil))))))
def G_many_parts (r : Nat) : Nat → Nat → List Sl → Res := Nat.rec (motive := fun _ => Nat → Nat → List Sl → Res) (fun _ _ _ => .stuck) (fun _ h j => defD [] 5 (B_many_parts (h 0))) r
abbrev F_many_parts (r : Nat) : Nat → List Sl → Res := G_many_parts r 0
def B_is_template  (fuel : Nat) : DS → Out := sSeq (sIf (bNot (toB (fCallF ((F_are_parts 10) fuel) (aaVal (vGet 0) (aaVal (vC (.int 3)) (aaNil)))))) (sRet (vC (.bl false))) (sNx)) (sSeq (sAsg (fCallF ((F_many_parts 6) fuel) (aaVal (vGet 0) (aaNil))) (gTupD 2 (gConsD (gSet 1) (gConsD (gSet 2) (gNilD))))) (sRet (fAnd (fBin dLe (vGet 1) (vC (.int 12))) (fBin dLe (vGet 2) (vC (.int 4))))))
def F_is_template : Nat → List Sl → Res := defD [] 3 B_is_template
def B_need_template  (fuel : Nat) : DS → Out := sIf (bNot (toB (fCallF (F_is_template fuel) (aaVal (vGet 0) (aaNil))))) (sExc 0) (sNx)
def F_need_template : Nat → List Sl → Res := defD [] 1 B_need_template
def B_is_value_i0 (c0 : Nat → List Sl → Res) (c1 : Nat → List Sl → Res) (fuel : Nat) : DS → Out := sRet (fCallF (F_is_over fuel) (aaVal (vGet 1) (aaVal (vC (.str [97, 98, 99, 100, 101, 102, 103, 104, 105, 106, 107, 108, 109, 110, 111, 112, 113, 114, 115, 116, 117, 118, 119, 120, 121, 122])) (aaVal (vC (.int 1)) (aaVal (vC (.int 8)) (aaNil))))))
def B_is_value (c0 : Nat → List Sl → Res) (c1 : Nat → List Sl → Res) (fuel : Nat) : DS → Out := sSeq (sIf (toB (fBin dEq (fBin dGetI (vGet 0) (vC (.int 0))) (vC (.str [102, 105, 101, 108, 100])))) (B_is_value_i0 c0 c1 fuel) (sNx)) (sSeq (sIf (toB (fBin dEq (fBin dGetI (vGet 0) (vC (.int 0))) (vC (.str [105, 102])))) (sRet (fOr (fBin dIs (vGet 1) (vC .non)) (fCallF (c1 fuel) (aaVal (fBin dGetI (vGet 0) (vC (.int 2))) (aaVal (vGet 1) (aaNil)))))) (sNx)) (sRet (fAnd (fCall dIsi (aCons (vGet 1) (aCons (vC (.op (.ty "list"))) (aNil)))) (fAnd (fBin dLe (fCall dLen (aCons (vGet 1) (aNil))) (vC (.int 4))) (fCall dAll (aCons (ofO (oLc [2] (iSeq (vGet 1)) (gSet 2) (bYes) (fCallF (c1 fuel) (aaVal (fBin dGetI (vGet 0) (vC (.int 3))) (aaVal (vGet 2) (aaNil)))))) (aNil)))))))
def B_is_filling (c0 : Nat → List Sl → Res) (c1 : Nat → List Sl → Res) (fuel : Nat) : DS → Out := sSeq (sIf (bOr (bNot (toB (fCall dIsi (aCons (vGet 1) (aCons (vC (.op (.ty "dict"))) (aNil)))))) (bNot (toB (fCall dAll (aCons (ofO (lockE 1 (oLc [4] (fKeys 1) (gSet 4) (bYes) (fCall dIsi (aCons (vGet 4) (aCons (vC (.op (.ty "str"))) (aNil))))))) (aNil)))))) (sRet (vC (.bl false))) (sNx)) (sSeq (sSetL 2 (oLc [3] (iSeq (vGet 0)) (gSet 3) (toB (fBin dNe (fBin dGetI (vGet 3) (vC (.int 0))) (vC (.str [116, 101, 120, 116])))) (vGet 3))) (sSeq (sIf (toB (fBin dNe (fCall dSorted (aCons (vGet 1) (aNil))) (fCall dSorted (aCons (ofO (oLc [3] (iSeq (vGet 2)) (gSet 3) (bYes) (fBin dGetI (vGet 3) (vC (.int 1))))) (aNil))))) (sRet (vC (.bl false))) (sNx)) (sRet (fCall dAll (aCons (ofO (oLc [3] (iSeq (vGet 2)) (gSet 3) (bYes) (fCallF (c0 fuel) (aaVal (vGet 3) (aaVal (fBin dGetI (vGet 1) (fBin dGetI (vGet 3) (vC (.int 1)))) (aaNil)))))) (aNil))))))
def G_is_value (r : Nat) : Nat → Nat → List Sl → Res := Nat.rec (motive := fun _ => Nat → Nat → List Sl → Res) (fun _ _ _ => .stuck) (fun _ h j => if j = 0 then defD [] 3 (B_is_value (h 0) (h 1)) else defD [] 5 (B_is_filling (h 0) (h 1))) r
abbrev F_is_value (r : Nat) : Nat → List Sl → Res := G_is_value r 0
abbrev F_is_filling (r : Nat) : Nat → List Sl → Res := G_is_value r 1
def B_is_record  (fuel : Nat) : DS → Out := sSeq (sExpr (fCallF (F_need_template fuel) (aaVal (vGet 0) (aaNil)))) (sRet (fCallF ((F_is_filling 10) fuel) (aaVal (vGet 0) (aaVal (vGet 1) (aaNil)))))
def F_is_record : Nat → List Sl → Res := defD [] 2 B_is_record
def B_are_alike (c0 : Nat → List Sl → Res) (fuel : Nat) : DS → Out := sSeq (sAsg (ofO (oDc [4] (iSeq (vGet 0)) (gSet 4) (toB (fBin dNe (fBin dGetI (vGet 4) (vC (.int 0))) (vC (.str [116, 101, 120, 116])))) (fBin dGetI (vGet 4) (vC (.int 1))) (vGet 4))) (gSet 2)) (sSeq (sAsg (ofO (oDc [4] (iSeq (vGet 1)) (gSet 4) (toB (fBin dNe (fBin dGetI (vGet 4) (vC (.int 0))) (vC (.str [116, 101, 120, 116])))) (fBin dGetI (vGet 4) (vC (.int 1))) (vGet 4))) (gSet 3)) (sSeq (sIf (toB (fBin dNe (fCall dSorted (aCons (vGet 2) (aNil))) (fCall dSorted (aCons (vGet 3) (aNil))))) (sRet (vC (.bl false))) (sNx)) (sRet (fCall dAll (aCons (ofO (lockE 2 (oLc [5] (fKeys 2) (gSet 5) (bYes) (fAnd (fBin dEq (fBin dGetI (fBin dGetI (vGet 2) (vGet 5)) (vC (.int 0))) (fBin dGetI (fBin dGetI (vGet 3) (vGet 5)) (vC (.int 0)))) (fCallF (c0 fuel) (aaVal (fCallF (F_inner fuel) (aaVal (fBin dGetI (vGet 2) (vGet 5)) (aaNil))) (aaVal (fCallF (F_inner fuel) (aaVal (fBin dGetI (vGet 3) (vGet 5)) (aaNil))) (aaNil)))))))) (aNil))))))
def G_are_alike (r : Nat) : Nat → Nat → List Sl → Res := Nat.rec (motive := fun _ => Nat → Nat → List Sl → Res) (fun _ _ _ => .stuck) (fun _ h j => defD [] 6 (B_are_alike (h 0))) r
abbrev F_are_alike (r : Nat) : Nat → List Sl → Res := G_are_alike r 0
def B_alike  (fuel : Nat) : DS → Out := sSeq (sExpr (fCallF (F_need_template fuel) (aaVal (vGet 0) (aaNil)))) (sSeq (sExpr (fCallF (F_need_template fuel) (aaVal (vGet 1) (aaNil)))) (sRet (fCallF ((F_are_alike 8) fuel) (aaVal (vGet 0) (aaVal (vGet 1) (aaNil))))))
def F_alike : Nat → List Sl → Res := defD [] 2 B_alike
def B_with_value  (fuel : Nat) : DS → Out := sSeq (sSetO 3 (oDict (vGet 0))) (sSeq (sDPutD 3 (vGet 1) (vGet 2)) (sRetO (oMove 3)))
def F_with_value : Nat → List Sl → Res := defD [] 4 B_with_value
def B_values_of_i0 (c0 : Nat → List Sl → Res) (c1 : Nat → List Sl → Res) (fuel : Nat) : DS → Out := sRet (fBin dAdd (mkLst (aCons (mkTup (aCons (vC (.int 0)) (aCons (vC .non) (aNil)))) (aNil))) (ofO (oLc [3, 4] (iSeq (vGet 1)) (gTupD 2 (gConsD (gSet 3) (gConsD (gSet 4) (gNilD)))) (bYes) (mkTup (aCons (fBin dAdd (vC (.int 1)) (vGet 3)) (aCons (vGet 4) (aNil)))))))
def B_values_of_f1 (c0 : Nat → List Sl → Res) (c1 : Nat → List Sl → Res) (fuel : Nat) : DS → Out := sExt 2 (ofO (oLc [5, 6] (iSeq (vGet 1)) (gTupD 2 (gConsD (gSet 5) (gConsD (gSet 6) (gNilD)))) (bYes) (mkTup (aCons (fBin dAdd (fBin dAdd (vC (.int 2)) (vGet 3)) (vGet 5)) (aCons (mkLst (aCons (vGet 4) (aCons (vGet 6) (aNil)))) (aNil))))))
def B_values_of (c0 : Nat → List Sl → Res) (c1 : Nat → List Sl → Res) (fuel : Nat) : DS → Out := sSeq (sIf (toB (fBin dEq (fBin dGetI (vGet 0) (vC (.int 0))) (vC (.str [102, 105, 101, 108, 100])))) (sRet (mkLst (aCons (mkTup (aCons (vC (.int 1)) (aCons (vC (.str [97])) (aNil)))) (aNil)))) (sNx)) (sSeq (sAsg (fCallF (c1 fuel) (aaVal (fBin dGetI (vGet 0) (fUn dNeg (vC (.int 1)))) (aaNil))) (gSet 1)) (sSeq (sIf (toB (fBin dEq (fBin dGetI (vGet 0) (vC (.int 0))) (vC (.str [105, 102])))) (B_values_of_i0 c0 c1 fuel) (sNx)) (sSeq (sSetO 2 (oAddL (mkLst (aCons (mkTup (aCons (vC (.int 0)) (aCons (mkLst (aNil)) (aNil)))) (aNil))) (ofO (oLc [3, 4] (iSeq (vGet 1)) (gTupD 2 (gConsD (gSet 3) (gConsD (gSet 4) (gNilD)))) (bYes) (mkTup (aCons (fBin dAdd (vC (.int 1)) (vGet 3)) (aCons (mkLst (aCons (vGet 4) (aNil))) (aNil)))))))) (sSeq (sFor (iSeq (vGet 1)) (gTupD 2 (gConsD (gSet 3) (gConsD (gSet 4) (gNilD)))) (B_values_of_f1 c0 c1 fuel)) (sRet (vGetF 2))))))
def B_shapes_f0 (c0 : Nat → List Sl → Res) (c1 : Nat → List Sl → Res) (fuel : Nat) : DS → Out := sExt 4 (ofO (oLc [7, 8] (iSeq (vGet 3)) (gTupD 2 (gConsD (gSet 7) (gConsD (gSet 8) (gNilD)))) (bYes) (mkTup (aCons (fBin dAdd (vGet 5) (vGet 7)) (aCons (fCallF (F_with_value fuel) (aaVal (vGet 6) (aaVal (fBin dGetI (vGet 2) (vC (.int 1))) (aaVal (vGet 8) (aaNil))))) (aNil))))))
def B_shapes_i1 (c0 : Nat → List Sl → Res) (c1 : Nat → List Sl → Res) (fuel : Nat) : DS → Out := sSeq (sAsg (fCallF (c0 fuel) (aaVal (vGet 2) (aaNil))) (gSet 3)) (sSeq (sSetO 4 (oLst (aNil))) (sSeq (sFor (iSeq (vGet 1)) (gTupD 2 (gConsD (gSet 5) (gConsD (gSet 6) (gNilD)))) (B_shapes_f0 c0 c1 fuel)) (sAsg (vGetF 4) (gSet 1))))
def B_shapes (c0 : Nat → List Sl → Res) (c1 : Nat → List Sl → Res) (fuel : Nat) : DS → Out := sSeq (sAsg (mkLst (aCons (mkTup (aCons (vC (.int 0)) (aCons (ofO (oC (.d 0 []))) (aNil)))) (aNil))) (gSet 1)) (sSeq (sFor (iSeq (vGet 0)) (gSet 2) (sIf (toB (fBin dNe (fBin dGetI (vGet 2) (vC (.int 0))) (vC (.str [116, 101, 120, 116])))) (B_shapes_i1 c0 c1 fuel) (sNx))) (sRet (vGet 1)))
def G_values_of (r : Nat) : Nat → Nat → List Sl → Res := Nat.rec (motive := fun _ => Nat → Nat → List Sl → Res) (fun _ _ _ => .stuck) (fun _ h j => if j = 0 then defD [] 7 (B_values_of (h 0) (h 1)) else defD [] 9 (B_shapes (h 0) (h 1))) r
abbrev F_values_of (r : Nat) : Nat → List Sl → Res := G_values_of r 0
abbrev F_shapes (r : Nat) : Nat → List Sl → Res := G_values_of r 1
def B_row_of_f0 (c0 : Nat → List Sl → Res) (fuel : Nat) : DS → Out := sSeq (sExt 3 (fIf (toB (fBin dGt (vGet 5) (vC (.int 0)))) (fCall dList (aCons (fBin dGetI (vGet 4) (vC (.int 2))) (aNil))) (mkLst (aNil)))) (sExt 3 (fCallF (c0 fuel) (aaVal (fBin dGetI (vGet 4) (vC (.int 3))) (aaVal (vGet 6) (aaVal (fBin dAdd (vGet 2) (mkTup (aCons (fBin dGetI (vGet 4) (vC (.int 1))) (aCons (vGet 5) (aNil))))) (aaNil))))))
def B_row_of_i1 (c0 : Nat → List Sl → Res) (fuel : Nat) : DS → Out := sExt 3 (fCallF (c0 fuel) (aaVal (fBin dGetI (vGet 4) (vC (.int 2))) (aaVal (fBin dGetI (vGet 1) (fBin dGetI (vGet 4) (vC (.int 1)))) (aaVal (fBin dAdd (vGet 2) (mkTup (aCons (fBin dGetI (vGet 4) (vC (.int 1))) (aNil)))) (aaNil)))))
def B_row_of_e2 (c0 : Nat → List Sl → Res) (fuel : Nat) : DS → Out := sIf (toB (fBin dEq (fBin dGetI (vGet 4) (vC (.int 0))) (vC (.str [101, 97, 99, 104])))) (sFor (iEnumD (aCons (fBin dGetI (vGet 1) (fBin dGetI (vGet 4) (vC (.int 1)))) (aNil))) (gTupD 2 (gConsD (gSet 5) (gConsD (gSet 6) (gNilD)))) (B_row_of_f0 c0 fuel)) (sIf (toB (fBin dIsNot (fBin dGetI (vGet 1) (fBin dGetI (vGet 4) (vC (.int 1)))) (vC .non))) (B_row_of_i1 c0 fuel) (sNx))
def B_row_of_e3 (c0 : Nat → List Sl → Res) (fuel : Nat) : DS → Out := sIf (toB (fBin dEq (fBin dGetI (vGet 4) (vC (.int 0))) (vC (.str [102, 105, 101, 108, 100])))) (sApp 3 (fBin dAdd (vGet 2) (mkTup (aCons (fBin dGetI (vGet 4) (vC (.int 1))) (aNil))))) (B_row_of_e2 c0 fuel)
def B_row_of (c0 : Nat → List Sl → Res) (fuel : Nat) : DS → Out := sSeq (sSetO 3 (oLst (aNil))) (sSeq (sFor (iSeq (vGet 0)) (gSet 4) (sIf (toB (fBin dEq (fBin dGetI (vGet 4) (vC (.int 0))) (vC (.str [116, 101, 120, 116])))) (sExt 3 (fCall dList (aCons (fBin dGetI (vGet 4) (vC (.int 1))) (aNil)))) (B_row_of_e3 c0 fuel))) (sRet (vGetF 3)))
def G_row_of (r : Nat) : Nat → Nat → List Sl → Res := Nat.rec (motive := fun _ => Nat → Nat → List Sl → Res) (fun _ _ _ => .stuck) (fun _ h j => defD [] 7 (B_row_of (h 0))) r
abbrev F_row_of (r : Nat) : Nat → List Sl → Res := G_row_of r 0
def B_worded_i0 (c0 : Nat → List Sl → Res) (fuel : Nat) : DS → Out := sDPutD 4 (fBin dGetI (vGet 5) (vC (.int 1))) (ofO (oLc [8, 9] (iEnumD (aCons (vGet 6) (aNil))) (gTupD 2 (gConsD (gSet 8) (gConsD (gSet 9) (gNilD)))) (bYes) (fCallF (c0 fuel) (aaVal (fBin dGetI (vGet 5) (vC (.int 3))) (aaVal (vGet 9) (aaVal (fBin dAdd (vGet 7) (mkTup (aCons (vGet 8) (aNil)))) (aaVal (vGet 3) (aaNil))))))))
def B_worded_e1 (c0 : Nat → List Sl → Res) (fuel : Nat) : DS → Out := sDPutD 4 (fBin dGetI (vGet 5) (vC (.int 1))) (fIf (toB (fBin dIs (vGet 6) (vC .non))) (vC .non) (fCallF (c0 fuel) (aaVal (fBin dGetI (vGet 5) (vC (.int 2))) (aaVal (vGet 6) (aaVal (vGet 7) (aaVal (vGet 3) (aaNil)))))))
def B_worded_f2 (c0 : Nat → List Sl → Res) (fuel : Nat) : DS → Out := sSeq (sIf (toB (fBin dEq (fBin dGetI (vGet 5) (vC (.int 0))) (vC (.str [116, 101, 120, 116])))) (sCt) (sNx)) (sSeq (sAsg (mkTup (aCons (fBin dGetI (vGet 1) (fBin dGetI (vGet 5) (vC (.int 1)))) (aCons (fBin dAdd (vGet 2) (mkTup (aCons (fBin dGetI (vGet 5) (vC (.int 1))) (aNil)))) (aNil)))) (gTupD 2 (gConsD (gSet 6) (gConsD (gSet 7) (gNilD))))) (sIf (toB (fBin dEq (fBin dGetI (vGet 5) (vC (.int 0))) (vC (.str [102, 105, 101, 108, 100])))) (sDPutD 4 (fBin dGetI (vGet 5) (vC (.int 1))) (fGet2 (vGet 3) (vGet 7) (vGet 6))) (sIf (toB (fBin dEq (fBin dGetI (vGet 5) (vC (.int 0))) (vC (.str [101, 97, 99, 104])))) (B_worded_i0 c0 fuel) (B_worded_e1 c0 fuel))))
def B_worded (c0 : Nat → List Sl → Res) (fuel : Nat) : DS → Out := sSeq (sSetO 4 (oC (.d 0 []))) (sSeq (sFor (iSeq (vGet 0)) (gSet 5) (B_worded_f2 c0 fuel)) (sRet (vGetF 4)))
def G_worded (r : Nat) : Nat → Nat → List Sl → Res := Nat.rec (motive := fun _ => Nat → Nat → List Sl → Res) (fun _ _ _ => .stuck) (fun _ h j => defD [] 10 (B_worded (h 0))) r
abbrev F_worded (r : Nat) : Nat → List Sl → Res := G_worded r 0
def B_words_for_i0  (fuel : Nat) : DS → Out := sSeq (sIf (bAnd (toB (fCall dIsi (aCons (vGet 2) (aCons (vC (.op (.ty "tuple"))) (aNil))))) (toB (fCall dIsi (aCons (vGet 3) (aCons (vC (.op (.ty "tuple"))) (aNil)))))) (sRet (ofO (oDisp1T (vGet 2) (vC (.str [98]))))) (sNx)) (sSeq (sAsg (fIf (toB (fCall dIsi (aCons (vGet 2) (aCons (vC (.op (.ty "tuple"))) (aNil))))) (mkTup (aCons (vGet 2) (aCons (vGet 3) (aNil)))) (mkTup (aCons (vGet 3) (aCons (vGet 2) (aNil))))) (gTupD 2 (gConsD (gSet 4) (gConsD (gSet 5) (gNilD))))) (sRet (fIf (toB (fCall dIsi (aCons (vGet 4) (aCons (vC (.op (.ty "tuple"))) (aNil))))) (ofO (oDisp1T (vGet 4) (fIf (toB (fBin dEq (vGet 5) (vC (.str [97])))) (vC (.str [98])) (vC (.str [97]))))) (ofO (oC (.d 1 []))))))
def B_words_for  (fuel : Nat) : DS → Out := sSeq (sIf (toB (fBin dEq (fCall dLen (aCons (vGet 0) (aNil))) (fCall dLen (aCons (vGet 1) (aNil))))) (sFor (iZipD (aCons (vGet 0) (aCons (vGet 1) (aNil)))) (gTupD 2 (gConsD (gSet 2) (gConsD (gSet 3) (gNilD)))) (sIf (toB (fBin dNe (vGet 2) (vGet 3))) (B_words_for_i0  fuel) (sNx))) (sNx)) (sRet (ofO (oC (.d 1 []))))
def F_words_for : Nat → List Sl → Res := defD [] 6 B_words_for
def B_difference_i0  (fuel : Nat) : DS → Out := sAsg (mkTup (aCons (vGet 3) (aCons (fCallF ((F_worded 8) fuel) (aaVal (vGet 0) (aaVal (vGet 4) (aaVal (mkTup (aNil)) (aaVal (fCallF (F_words_for fuel) (aaVal (vGet 5) (aaVal (vGet 6) (aaNil)))) (aaNil)))))) (aNil)))) (gSet 2)
def B_difference_i1  (fuel : Nat) : DS → Out := sSeq (sPar 5 6 (aCons (fCallF ((F_row_of 8) fuel) (aaVal (vGet 0) (aaVal (vGet 4) (aaVal (mkTup (aNil)) (aaNil))))) (aCons (fCallF ((F_row_of 8) fuel) (aaVal (vGet 1) (aaVal (vGet 4) (aaVal (mkTup (aNil)) (aaNil))))) (aNil)))) (sIf (toB (fBin dNe (vGet 5) (vGet 6))) (B_difference_i0  fuel) (sNx))
def B_difference  (fuel : Nat) : DS → Out := sSeq (sIf (bNot (toB (fCallF (F_alike fuel) (aaVal (vGet 0) (aaVal (vGet 1) (aaNil)))))) (sExc 2) (sNx)) (sSeq (sAsg (vC .non) (gSet 2)) (sSeq (sFor (iSeq (fCallF ((F_shapes 8) fuel) (aaVal (vGet 0) (aaNil)))) (gTupD 2 (gConsD (gSet 3) (gConsD (gSet 4) (gNilD)))) (sIf (bOr (toB (fBin dIs (vGet 2) (vC .non))) (toB (fBin dLt (vGet 3) (fBin dGetI (vGet 2) (vC (.int 0)))))) (B_difference_i1  fuel) (sNx))) (sRet (fIf (toB (fBin dIs (vGet 2) (vC .non))) (vC .non) (fBin dGetI (vGet 2) (vC (.int 1)))))))
def F_difference : Nat → List Sl → Res := defD [] 7 B_difference
def B_law_draw_i0  (fuel : Nat) : DS → Out := sSeq (sSetIx 1 (vC (.int 1)) (fBin dMod (fBin dFdiv (fBin dGetI (vGet 0) (vGet 3)) (vGet 2)) (fBin dMul (fBin dPow (vC (.int 10)) (vC (.int 60))) (fBin dPow (vC (.int 10)) (vC (.int 60)))))) (sRet (fBin dMod (fBin dGetI (vGet 0) (vGet 3)) (vGet 2)))
def B_law_draw  (fuel : Nat) : DS → Out := sSeq (sIf (toB (fBin dGt (fIxOwn 1 (vC (.int 1))) (vC (.int 0)))) (sSeq (sAsg (fBin dMod (fIxOwn 1 (vC (.int 1))) (vGet 2)) (gSet 5)) (sSeq (sSetIx 1 (vC (.int 1)) (fBin dFdiv (fIxOwn 1 (vC (.int 1))) (vGet 2))) (sRet (vGet 5)))) (sNx)) (sSeq (sAsg (fIxOwn 1 (vC (.int 0))) (gSet 3)) (sSeq (sAugIx 1 0 dIadd (vC (.int 1))) (sSeq (sIf (toB (fBin dEq (vGet 0) (mkLst (aNil)))) (sRet (fBin dMod (vGet 3) (vGet 2))) (sNx)) (sSeq (sIf (bAnd (toB (fBin dLt (vGet 3) (fCall dLen (aCons (vGet 0) (aNil))))) (toB (fBin dGe (fBin dGetI (vGet 0) (vGet 3)) (fBin dPow (vC (.int 10)) (vC (.int 18)))))) (B_law_draw_i0  fuel) (sNx)) (sSeq (sAsg (fBin dMod (fBin dAdd (fBin dAdd (fBin dMul (fBin dGetI (vGet 0) (fBin dMod (vGet 3) (fCall dLen (aCons (vGet 0) (aNil))))) (vC (.int 1103515245))) (fBin dMul (vC (.int 7919)) (vGet 3))) (vC (.int 12345))) (vC (.int 2147483647))) (gSet 4)) (sRet (fBin dMod (fBin dMod (fBin dMod (fBin dPow (vGet 4) (vC (.int 5))) (vC (.int 2147483647))) (vC (.int 999983))) (vGet 2))))))))
def F_law_draw : Nat → List Sl → Res := defD [1] 6 B_law_draw
def B_law_pick  (fuel : Nat) : DS → Out := sRet (fBin dGetI (vGet 2) (fCallF (F_law_draw fuel) (aaVal (vGet 0) (aaOwn 1 (aaVal (fCall dLen (aCons (vGet 2) (aNil))) (aaNil))))))
def F_law_pick : Nat → List Sl → Res := defD [1] 3 B_law_pick
def B_law_parts_e0 (c0 : Nat → List Sl → Res) (fuel : Nat) : DS → Out := sSeq (sAsg (fBin dAdd (fCallF (c0 fuel) (aaVal (vGet 0) (aaOwn 1 (aaVal (fBin dSub (vGet 2) (vC (.int 1))) (aaVal (vC (.int 2)) (aaVal (vGet 4) (aaNil))))))) (mkTup (aCons (mkTup (aCons (vC (.str [102, 105, 101, 108, 100])) (aCons (vC (.str [122])) (aNil)))) (aNil)))) (gSet 8)) (sApp 5 (mkTup (aCons (vGet 7) (aCons (vGet 6) (aCons (fCallF (F_law_pick fuel) (aaVal (vGet 0) (aaOwn 1 (aaVal (fBin dAdd (mkLst (aCons (vC (.str [])) (aCons (vC (.str [44])) (aNil)))) (vGet 4)) (aaNil))))) (aCons (fSl (vGet 8) (oSome (fCallF (F_law_draw fuel) (aaVal (vGet 0) (aaOwn 1 (aaVal (vC (.int 2)) (aaNil)))))) oNone) (aNil)))))))
def B_law_parts_e1 (c0 : Nat → List Sl → Res) (fuel : Nat) : DS → Out := sIf (toB (fBin dEq (vGet 7) (vC (.str [105, 102])))) (sApp 5 (mkTup (aCons (vGet 7) (aCons (vGet 6) (aCons (fCallF (c0 fuel) (aaVal (vGet 0) (aaOwn 1 (aaVal (fBin dSub (vGet 2) (vC (.int 1))) (aaVal (vC (.int 2)) (aaVal (vGet 4) (aaNil))))))) (aNil)))))) (B_law_parts_e0 c0 fuel)
def B_law_parts_e2 (c0 : Nat → List Sl → Res) (fuel : Nat) : DS → Out := sIf (bOr (toB (fBin dIn (vGet 7) (mkTup (aCons (vC (.str [116, 101, 120, 116])) (aCons (vC (.str [102, 105, 101, 108, 100])) (aNil)))))) (toB (fBin dEq (vGet 2) (vC (.int 0))))) (sApp 5 (mkTup (aCons (vC (.str [102, 105, 101, 108, 100])) (aCons (vGet 6) (aNil))))) (B_law_parts_e1 c0 fuel)
def B_law_parts_f3 (c0 : Nat → List Sl → Res) (fuel : Nat) : DS → Out := sSeq (sAsg (fCallF (F_law_pick fuel) (aaVal (vGet 0) (aaOwn 1 (aaVal (mkLst (aCons (vC (.str [116, 101, 120, 116])) (aCons (vC (.str [102, 105, 101, 108, 100])) (aCons (vC (.str [102, 105, 101, 108, 100])) (aCons (vC (.str [105, 102])) (aCons (vC (.str [101, 97, 99, 104])) (aNil))))))) (aaNil))))) (gSet 7)) (sIf (bAnd (toB (fBin dEq (vGet 7) (vC (.str [116, 101, 120, 116])))) (bOr (toB (fEqOwn false 5 (mkLst (aNil)))) (toB (fBin dNe (fBin dGetI (fIxOwn 5 (fUn dNeg (vC (.int 1)))) (vC (.int 0))) (vC (.str [116, 101, 120, 116])))))) (sApp 5 (mkTup (aCons (vGet 7) (aCons (fCallF (F_law_pick fuel) (aaVal (vGet 0) (aaOwn 1 (aaVal (vGet 4) (aaNil))))) (aNil))))) (B_law_parts_e2 c0 fuel))
def B_law_parts (c0 : Nat → List Sl → Res) (fuel : Nat) : DS → Out := sSeq (sSetO 5 (oLst (aNil))) (sSeq (sFor (iSeq (fSl (mkLst (aCons (vC (.str [97])) (aCons (vC (.str [98])) (aCons (vC (.str [99, 100])) (aCons (vC (.str [101])) (aNil)))))) oNone (oSome (fBin dAdd (vC (.int 1)) (fCallF (F_law_draw fuel) (aaVal (vGet 0) (aaOwn 1 (aaVal (vGet 3) (aaNil))))))))) (gSet 6) (B_law_parts_f3 c0 fuel)) (sRet (fCall dTuple (aCons (vGetF 5) (aNil)))))
def G_law_parts (r : Nat) : Nat → Nat → List Sl → Res := Nat.rec (motive := fun _ => Nat → Nat → List Sl → Res) (fun _ _ _ => .stuck) (fun _ h j => defD [1] 9 (B_law_parts (h 0))) r
abbrev F_law_parts (r : Nat) : Nat → List Sl → Res := G_law_parts r 0
def B_law_many (c0 : Nat → List Sl → Res) (fuel : Nat) : DS → Out := sSeq (sSetL 1 (oLc [2] (iSeq (vGet 0)) (gSet 2) (toB (fBin dIn (fBin dGetI (vGet 2) (vC (.int 0))) (mkTup (aCons (vC (.str [105, 102])) (aCons (vC (.str [101, 97, 99, 104])) (aNil)))))) (fCallF (c0 fuel) (aaVal (fBin dGetI (vGet 2) (fUn dNeg (vC (.int 1)))) (aaNil))))) (sRet (mkTup (aCons (fBin dAdd (fCall dLen (aCons (vGet 0) (aNil))) (fCall dSum (aCons (ofO (oLc [3, 4] (iSeq (vGet 1)) (gTupD 2 (gConsD (gSet 3) (gConsD (gSet 4) (gNilD)))) (bYes) (vGet 3))) (aNil)))) (aCons (fBin dAdd (fCall dLen (aCons (vGet 1) (aNil))) (fCall dSum (aCons (ofO (oLc [3, 4] (iSeq (vGet 1)) (gTupD 2 (gConsD (gSet 3) (gConsD (gSet 4) (gNilD)))) (bYes) (vGet 4))) (aNil)))) (aNil)))))
def G_law_many (r : Nat) : Nat → Nat → List Sl → Res := Nat.rec (motive := fun _ => Nat → Nat → List Sl → Res) (fun _ _ _ => .stuck) (fun _ h j => defD [] 5 (B_law_many (h 0))) r
abbrev F_law_many (r : Nat) : Nat → List Sl → Res := G_law_many r 0
def B_law_template  (fuel : Nat) : DS → Out := sSeq (sAsg (fCallF ((F_law_parts 8) fuel) (aaVal (vGet 0) (aaOwn 1 (aaVal (fBin dAdd (vC (.int 1)) (fCallF (F_law_draw fuel) (aaVal (vGet 0) (aaOwn 1 (aaVal (vC (.int 2)) (aaNil)))))) (aaVal (vGet 2) (aaVal (vGet 3) (aaNil))))))) (gSet 4)) (sSeq (whileD (bOr (toB (fBin dGt (fBin dGetI (fCallF ((F_law_many 8) fuel) (aaVal (vGet 4) (aaNil))) (vC (.int 0))) (vC (.int 10)))) (toB (fBin dGt (fBin dGetI (fCallF ((F_law_many 8) fuel) (aaVal (vGet 4) (aaNil))) (vC (.int 1))) (vC (.int 4))))) (sAsg (fSl (vGet 4) oNone (oSome (fUn dNeg (vC (.int 1))))) (gSet 4)) fuel) (sRet (fIf (toB (fBin dNe (vGet 4) (mkTup (aNil)))) (vGet 4) (mkTup (aCons (mkTup (aCons (vC (.str [102, 105, 101, 108, 100])) (aCons (vC (.str [97])) (aNil)))) (aNil))))))
def F_law_template : Nat → List Sl → Res := defD [1] 5 B_law_template
def B_law_record_i0 (c0 : Nat → List Sl → Res) (fuel : Nat) : DS → Out := sDPutD 3 (fBin dGetI (vGet 4) (vC (.int 1))) (fCallF (F_law_pick fuel) (aaVal (vGet 0) (aaOwn 1 (aaVal (mkLst (aCons (vC (.str [97])) (aCons (vC (.str [98])) (aCons (vC (.str [97, 98])) (aCons (vC (.str [98, 97])) (aCons (vC (.str [99])) (aCons (vC (.str [97, 97, 98])) (aNil)))))))) (aaNil)))))
def B_law_record_i1 (c0 : Nat → List Sl → Res) (fuel : Nat) : DS → Out := sDPutD 3 (fBin dGetI (vGet 4) (vC (.int 1))) (fIf (toB (fBin dEq (fCallF (F_law_draw fuel) (aaVal (vGet 0) (aaOwn 1 (aaVal (vC (.int 2)) (aaNil))))) (vC (.int 0)))) (vC .non) (fCallF (c0 fuel) (aaVal (vGet 0) (aaOwn 1 (aaVal (fBin dGetI (vGet 4) (vC (.int 2))) (aaNil))))))
def B_law_record_i2 (c0 : Nat → List Sl → Res) (fuel : Nat) : DS → Out := sDPutD 3 (fBin dGetI (vGet 4) (vC (.int 1))) (ofO (oLc [5] (iRng1D (aCons (fCallF (F_law_draw fuel) (aaVal (vGet 0) (aaOwn 1 (aaVal (vC (.int 4)) (aaNil))))) (aNil))) (gSet 5) (bYes) (fCallF (c0 fuel) (aaVal (vGet 0) (aaOwn 1 (aaVal (fBin dGetI (vGet 4) (vC (.int 3))) (aaNil)))))))
def B_law_record_e3 (c0 : Nat → List Sl → Res) (fuel : Nat) : DS → Out := sIf (toB (fBin dEq (fBin dGetI (vGet 4) (vC (.int 0))) (vC (.str [105, 102])))) (B_law_record_i1 c0 fuel) (sIf (toB (fBin dEq (fBin dGetI (vGet 4) (vC (.int 0))) (vC (.str [101, 97, 99, 104])))) (B_law_record_i2 c0 fuel) (sNx))
def B_law_record (c0 : Nat → List Sl → Res) (fuel : Nat) : DS → Out := sSeq (sSetO 3 (oC (.d 0 []))) (sSeq (sFor (iSeq (vGet 2)) (gSet 4) (sIf (toB (fBin dEq (fBin dGetI (vGet 4) (vC (.int 0))) (vC (.str [102, 105, 101, 108, 100])))) (B_law_record_i0 c0 fuel) (B_law_record_e3 c0 fuel))) (sRetO (oMove 3)))
def G_law_record (r : Nat) : Nat → Nat → List Sl → Res := Nat.rec (motive := fun _ => Nat → Nat → List Sl → Res) (fun _ _ _ => .stuck) (fun _ h j => defD [1] 6 (B_law_record (h 0))) r
abbrev F_law_record (r : Nat) : Nat → List Sl → Res := G_law_record r 0
def B_law_fill_f0 (c0 : Nat → List Sl → Res) (fuel : Nat) : DS → Out := sAsg (fBin dAdd (fBin dAdd (vGet 2) (fIf (toB (fBin dGt (vGet 5) (vC (.int 0)))) (fBin dGetI (vGet 3) (vC (.int 2))) (vC (.str [])))) (fCallF (c0 fuel) (aaVal (fBin dGetI (vGet 3) (vC (.int 3))) (aaVal (vGet 6) (aaNil))))) (gSet 2)
def B_law_fill_e1 (c0 : Nat → List Sl → Res) (fuel : Nat) : DS → Out := sIf (toB (fBin dEq (fBin dGetI (vGet 3) (vC (.int 0))) (vC (.str [101, 97, 99, 104])))) (sFor (iEnumD (aCons (vGet 4) (aNil))) (gTupD 2 (gConsD (gSet 5) (gConsD (gSet 6) (gNilD)))) (B_law_fill_f0 c0 fuel)) (sNx)
def B_law_fill_e2 (c0 : Nat → List Sl → Res) (fuel : Nat) : DS → Out := sIf (bAnd (toB (fBin dEq (fBin dGetI (vGet 3) (vC (.int 0))) (vC (.str [105, 102])))) (toB (fBin dIsNot (vGet 4) (vC .non)))) (sAsg (fBin dAdd (vGet 2) (fCallF (c0 fuel) (aaVal (fBin dGetI (vGet 3) (vC (.int 2))) (aaVal (vGet 4) (aaNil))))) (gSet 2)) (B_law_fill_e1 c0 fuel)
def B_law_fill_f3 (c0 : Nat → List Sl → Res) (fuel : Nat) : DS → Out := sSeq (sAsg (fGet1 (vGet 1) (fBin dGetI (vGet 3) (vC (.int 1)))) (gSet 4)) (sIf (toB (fBin dEq (fBin dGetI (vGet 3) (vC (.int 0))) (vC (.str [116, 101, 120, 116])))) (sAsg (fBin dAdd (vGet 2) (fBin dGetI (vGet 3) (vC (.int 1)))) (gSet 2)) (sIf (toB (fBin dEq (fBin dGetI (vGet 3) (vC (.int 0))) (vC (.str [102, 105, 101, 108, 100])))) (sAsg (fBin dAdd (vGet 2) (vGet 4)) (gSet 2)) (B_law_fill_e2 c0 fuel)))
def B_law_fill (c0 : Nat → List Sl → Res) (fuel : Nat) : DS → Out := sSeq (sAsg (vC (.str [])) (gSet 2)) (sSeq (sFor (iSeq (vGet 0)) (gSet 3) (B_law_fill_f3 c0 fuel)) (sRet (vGet 2)))
def G_law_fill (r : Nat) : Nat → Nat → List Sl → Res := Nat.rec (motive := fun _ => Nat → Nat → List Sl → Res) (fun _ _ _ => .stuck) (fun _ h j => defD [] 7 (B_law_fill (h 0))) r
abbrev F_law_fill (r : Nat) : Nat → List Sl → Res := G_law_fill r 0
def B_law_size_e0 (c0 : Nat → List Sl → Res) (fuel : Nat) : DS → Out := sIf (toB (fBin dIsNot (vGet 3) (vC .non))) (sAsg (fBin dAdd (vGet 1) (fCall dSum (aCons (ofO (oLc [4] (iSeq (vGet 3)) (gSet 4) (bYes) (fBin dAdd (vC (.int 1)) (fCallF (c0 fuel) (aaVal (vGet 4) (aaNil)))))) (aNil)))) (gSet 1)) (sNx)
def B_law_size_e1 (c0 : Nat → List Sl → Res) (fuel : Nat) : DS → Out := sIf (toB (fCall dIsi (aCons (vGet 3) (aCons (vC (.op (.ty "dict"))) (aNil))))) (sAsg (fBin dAdd (fBin dAdd (vGet 1) (vC (.int 1))) (fCallF (c0 fuel) (aaVal (vGet 3) (aaNil)))) (gSet 1)) (B_law_size_e0 c0 fuel)
def B_law_size_f2 (c0 : Nat → List Sl → Res) (fuel : Nat) : DS → Out := sSeq (sAsg (fBin dGetI (vGet 0) (vGet 2)) (gSet 3)) (sIf (toB (fCall dIsi (aCons (vGet 3) (aCons (vC (.op (.ty "str"))) (aNil))))) (sAsg (fBin dAdd (vGet 1) (fCall dLen (aCons (vGet 3) (aNil)))) (gSet 1)) (B_law_size_e1 c0 fuel))
def B_law_size (c0 : Nat → List Sl → Res) (fuel : Nat) : DS → Out := sSeq (sAsg (vC (.int 0)) (gSet 1)) (sSeq (lockS 0 (sFor (fKeys 0) (gSet 2) (B_law_size_f2 c0 fuel))) (sRet (vGet 1)))
def G_law_size (r : Nat) : Nat → Nat → List Sl → Res := Nat.rec (motive := fun _ => Nat → Nat → List Sl → Res) (fun _ _ _ => .stuck) (fun _ h j => defD [] 5 (B_law_size (h 0))) r
abbrev F_law_size (r : Nat) : Nat → List Sl → Res := G_law_size r 0
def B_law_records_i0 (c0 : Nat → List Sl → Res) (fuel : Nat) : DS → Out := sSeq (sAsg (fSl (fCallF (c0 fuel) (aaVal (fBin dGetI (vGet 4) (vC (.int 3))) (aaVal (vGet 1) (aaVal (vGet 2) (aaNil))))) oNone (oSome (vC (.int 12)))) (gSet 8)) (sSeq (sSetO 5 (oAddL (mkLst (aCons (mkLst (aNil)) (aNil))) (ofO (oLc [9] (iSeq (vGet 8)) (gSet 9) (bYes) (mkLst (aCons (vGet 9) (aNil))))))) (sFor (iSeq (vGet 8)) (gSet 9) (sExt 5 (ofO (oLc [11] (iSeq (vGet 8)) (gSet 11) (bYes) (mkLst (aCons (vGet 9) (aCons (vGet 11) (aNil)))))))))
def B_law_records_e1 (c0 : Nat → List Sl → Res) (fuel : Nat) : DS → Out := sIf (toB (fBin dEq (fBin dGetI (vGet 4) (vC (.int 0))) (vC (.str [105, 102])))) (sSetO 5 (oAddL (mkLst (aCons (vC .non) (aNil))) (fSl (fCallF (c0 fuel) (aaVal (fBin dGetI (vGet 4) (vC (.int 2))) (aaVal (vGet 1) (aaVal (vGet 2) (aaNil))))) oNone (oSome (vC (.int 20)))))) (sIf (toB (fBin dEq (fBin dGetI (vGet 4) (vC (.int 0))) (vC (.str [101, 97, 99, 104])))) (B_law_records_i0 c0 fuel) (sNx))
def B_law_records_f2 (c0 : Nat → List Sl → Res) (fuel : Nat) : DS → Out := sExt 6 (ofO (oLc [10] (iSeq (vGetF 5)) (gSet 10) (bYes) (ofO (oDictP (fBin dAdd (fListItems (vGet 7)) (mkLst (aCons (mkTup (aCons (fBin dGetI (vGet 4) (vC (.int 1))) (aCons (vGet 10) (aNil)))) (aNil))))))))
def B_law_records_f3 (c0 : Nat → List Sl → Res) (fuel : Nat) : DS → Out := sSeq (sSetO 5 (oLst (aNil))) (sSeq (sIf (toB (fBin dEq (fBin dGetI (vGet 4) (vC (.int 0))) (vC (.str [102, 105, 101, 108, 100])))) (sSetO 5 (oListC (vGet 1))) (B_law_records_e1 c0 fuel)) (sIf (toB (fBin dNe (fBin dGetI (vGet 4) (vC (.int 0))) (vC (.str [116, 101, 120, 116])))) (sSeq (sSetO 6 (oLst (aNil))) (sSeq (sFor (iSeq (vGet 3)) (gSet 7) (B_law_records_f2 c0 fuel)) (sAsg (fSl (vGetF 6) oNone (oSome (vGet 2))) (gSet 3)))) (sNx)))
def B_law_records (c0 : Nat → List Sl → Res) (fuel : Nat) : DS → Out := sSeq (sAsg (mkLst (aCons (ofO (oC (.d 0 []))) (aNil))) (gSet 3)) (sSeq (sFor (iSeq (vGet 0)) (gSet 4) (B_law_records_f3 c0 fuel)) (sRet (vGet 3)))
def G_law_records (r : Nat) : Nat → Nat → List Sl → Res := Nat.rec (motive := fun _ => Nat → Nat → List Sl → Res) (fun _ _ _ => .stuck) (fun _ h j => defD [] 12 (B_law_records (h 0))) r
abbrev F_law_records (r : Nat) : Nat → List Sl → Res := G_law_records r 0
def B_law_changed_i0 (c0 : Nat → List Sl → Res) (fuel : Nat) : DS → Out := sAsg (fBin dAdd (fSl (vGet 4) oNone (oSome (fUn dNeg (vC (.int 1))))) (mkTup (aCons (fCallF (c0 fuel) (aaVal (vGet 0) (aaOwn 1 (aaVal (fBin dGetI (vGet 4) (fUn dNeg (vC (.int 1)))) (aaNil))))) (aNil)))) (gSet 4)
def B_law_changed_i1 (c0 : Nat → List Sl → Res) (fuel : Nat) : DS → Out := sAsg (mkTup (aCons (fBin dGetI (vGet 4) (vC (.int 0))) (aCons (fBin dGetI (vGet 4) (vC (.int 1))) (aCons (fCallF (F_law_pick fuel) (aaVal (vGet 0) (aaOwn 1 (aaVal (mkLst (aCons (vC (.str [])) (aCons (vC (.str [44])) (aCons (vC (.str [97])) (aNil))))) (aaNil))))) (aCons (fBin dGetI (vGet 4) (vC (.int 3))) (aNil)))))) (gSet 4)
def B_law_changed_f2 (c0 : Nat → List Sl → Res) (fuel : Nat) : DS → Out := sSeq (sIf (toB (fBin dIn (fBin dGetI (vGet 4) (vC (.int 0))) (mkTup (aCons (vC (.str [105, 102])) (aCons (vC (.str [101, 97, 99, 104])) (aNil)))))) (B_law_changed_i0 c0 fuel) (sNx)) (sSeq (sIf (bAnd (toB (fBin dEq (fBin dGetI (vGet 4) (vC (.int 0))) (vC (.str [101, 97, 99, 104])))) (toB (fBin dEq (fCallF (F_law_draw fuel) (aaVal (vGet 0) (aaOwn 1 (aaVal (vC (.int 4)) (aaNil))))) (vC (.int 0))))) (B_law_changed_i1 c0 fuel) (sNx)) (sSeq (sIf (bAnd (toB (fEqOwn true 3 (mkLst (aNil)))) (toB (fBin dEq (fCallF (F_law_draw fuel) (aaVal (vGet 0) (aaOwn 1 (aaVal (vC (.int 2)) (aaNil))))) (vC (.int 0))))) (sApp 6 (fPopAt 3 (vC (.int 0)))) (sNx)) (sApp 6 (vGet 4))))
def B_law_changed (c0 : Nat → List Sl → Res) (fuel : Nat) : DS → Out := sSeq (sMix [5, 6] (amV (ofO (oLc [4] (iSeq (vGet 2)) (gSet 4) (toB (fBin dNe (fBin dGetI (vGet 4) (vC (.int 0))) (vC (.str [116, 101, 120, 116])))) (vGet 4))) (amO (oLst (aNil)) (amNil)))) (sSeq (sSetO 3 (oLc [4] (iSeq (vGet 2)) (gSet 4) (toB (fBin dEq (fBin dGetI (vGet 4) (vC (.int 0))) (vC (.str [116, 101, 120, 116])))) (vGet 4))) (sSeq (sIf (toB (fBin dEq (fCallF (F_law_draw fuel) (aaVal (vGet 0) (aaOwn 1 (aaVal (vC (.int 3)) (aaNil))))) (vC (.int 0)))) (sAsg (fUn dRev (vGet 5)) (gSet 5)) (sNx)) (sSeq (sFor (iSeq (vGet 5)) (gSet 4) (B_law_changed_f2 c0 fuel)) (sRet (fCall dTuple (aCons (fBin dAdd (vGetF 6) (vGetF 3)) (aNil)))))))
def G_law_changed (r : Nat) : Nat → Nat → List Sl → Res := Nat.rec (motive := fun _ => Nat → Nat → List Sl → Res) (fun _ _ _ => .stuck) (fun _ h j => defD [1] 7 (B_law_changed (h 0))) r
abbrev F_law_changed (r : Nat) : Nat → List Sl → Res := G_law_changed r 0
def B_law_f0  (fuel : Nat) : DS → Out := sIf (bAnd (toB (fBin dNe (fCallF ((F_law_fill 8) fuel) (aaVal (vGet 2) (aaVal (vGet 4) (aaNil)))) (fCallF ((F_law_fill 8) fuel) (aaVal (vGet 3) (aaVal (vGet 4) (aaNil)))))) (bOr (toB (fBin dIs (vGet 6) (vC .non))) (toB (fBin dLt (fCallF ((F_law_size 8) fuel) (aaVal (vGet 4) (aaNil))) (vGet 6))))) (sAsg (fCallF ((F_law_size 8) fuel) (aaVal (vGet 4) (aaNil))) (gSet 6)) (sNx)
def B_law_i1  (fuel : Nat) : DS → Out := sSeq (sSetL 7 (oLc [8] (iRng1D (aCons (vC (.int 6)) (aNil))) (gSet 8) (bYes) (fCallF ((F_law_record 8) fuel) (aaVal (vGet 0) (aaOwn 1 (aaVal (vGet 2) (aaNil))))))) (sSeq (sIf (toB (fBin dIsNot (vGet 6) (vC .non))) (sRet (vC (.bl false))) (sNx)) (sRet (fCall dAll (aCons (ofO (oLc [4] (iSeq (vGet 7)) (gSet 4) (bYes) (fBin dEq (fCallF ((F_law_fill 8) fuel) (aaVal (vGet 2) (aaVal (vGet 4) (aaNil)))) (fCallF ((F_law_fill 8) fuel) (aaVal (vGet 3) (aaVal (vGet 4) (aaNil))))))) (aNil)))))
def B_law  (fuel : Nat) : DS → Out := sSeq (sSetO 1 (oLst (aCons (vC (.int 0)) (aCons (vC (.int 0)) (aNil))))) (sSeq (sAsg (fCallF (F_law_template fuel) (aaVal (vGet 0) (aaOwn 1 (aaVal (vC (.int 4)) (aaVal (mkLst (aCons (vC (.str [97])) (aCons (vC (.str [44])) (aCons (vC (.str [97, 98])) (aNil))))) (aaNil)))))) (gSet 2)) (sSeq (sAsg (fCallF ((F_law_changed 8) fuel) (aaVal (vGet 0) (aaOwn 1 (aaVal (vGet 2) (aaNil))))) (gSet 3)) (sSeq (sIf (bOr (bNot (toB (fCallF (F_is_template fuel) (aaVal (vGet 2) (aaNil))))) (bNot (toB (fCallF (F_is_template fuel) (aaVal (vGet 3) (aaNil)))))) (sRet (vC (.bl true))) (sNx)) (sSeq (sIf (bOr (toB (fBin dIsNot (fCallF (F_alike fuel) (aaVal (vGet 2) (aaVal (vGet 3) (aaNil)))) (vC (.bl true)))) (toB (fBin dIsNot (fCallF (F_difference fuel) (aaVal (vGet 2) (aaVal (vGet 2) (aaNil)))) (vC .non)))) (sRet (vC (.bl false))) (sNx)) (sSeq (sPar 5 6 (aCons (fCallF (F_difference fuel) (aaVal (vGet 2) (aaVal (vGet 3) (aaNil)))) (aCons (vC .non) (aNil)))) (sSeq (sFor (iSeq (fCallF ((F_law_records 8) fuel) (aaVal (vGet 2) (aaVal (mkLst (aCons (vC (.str [97])) (aCons (vC (.str [98])) (aNil)))) (aaVal (vC (.int 300)) (aaNil)))))) (gSet 4) (B_law_f0  fuel)) (sSeq (sIf (toB (fBin dNe (fBin dIs (fCallF (F_difference fuel) (aaVal (vGet 3) (aaVal (vGet 2) (aaNil)))) (vC .non)) (fBin dIs (vGet 5) (vC .non)))) (sRet (vC (.bl false))) (sNx)) (sSeq (sIf (toB (fBin dIs (vGet 5) (vC .non))) (B_law_i1  fuel) (sNx)) (sSeq (sIf (bOr (toB (fBin dIsNot (fCallF (F_is_record fuel) (aaVal (vGet 2) (aaVal (vGet 5) (aaNil)))) (vC (.bl true)))) (toB (fBin dEq (fCallF ((F_law_fill 8) fuel) (aaVal (vGet 2) (aaVal (vGet 5) (aaNil)))) (fCallF ((F_law_fill 8) fuel) (aaVal (vGet 3) (aaVal (vGet 5) (aaNil))))))) (sRet (vC (.bl false))) (sNx)) (sSeq (sIf (toB (fBin dNe (fCallF ((F_law_size 8) fuel) (aaVal (fCallF (F_difference fuel) (aaVal (vGet 3) (aaVal (vGet 2) (aaNil)))) (aaNil))) (fCallF ((F_law_size 8) fuel) (aaVal (vGet 5) (aaNil))))) (sRet (vC (.bl false))) (sNx)) (sRet (fOr (fBin dIs (vGet 6) (vC .non)) (fBin dLe (fCallF ((F_law_size 8) fuel) (aaVal (vGet 5) (aaNil))) (vGet 6))))))))))))))
def F_law : Nat → List Sl → Res := defD [] 9 B_law
end LW

namespace LW
open PySem L2 DL
/-! ### comprehensions over what is typed -/
section
variable {vs : List Nat} {g : TgF} {t : DS → R (Bool × DS)} {f : DS → R (D × DS)} {ds : DS}
theorem lcD_map {α : Type} (e v : α → D) (hno : noOwn vs ds = true) : ∀ (ps : List α), (∀ p ∈ ps, ∃ ds1 ds3, g (e p) (wipeD ds vs) = some ds1 ∧ f ds1 = .ok (v p, ds3) ∧ backD vs ds ds3 = ds) → lcD vs g bYes f (ps.map e) ds = .ok (ps.map v, ds)
  | [], _ => rfl
  | p :: ps, h => by
    obtain ⟨ds1, ds3, h1, h2, h3⟩ := h p List.mem_cons_self
    have ih := lcD_map e v hno ps fun q hq => h q (List.mem_cons_of_mem _ hq)
    simp only [List.map_cons, lcD, hno, if_true, h1, bYes, quiet, R.bind_ok, h2, h3, ih]
theorem lcD_filter {α : Type} (e : α → D) (b : α → Bool) (v : α → D) (hno : noOwn vs ds = true) : ∀ (ps : List α), (∀ p ∈ ps, ∃ ds1 ds2, g (e p) (wipeD ds vs) = some ds1 ∧ t ds1 = .ok (b p, ds2) ∧ (b p = false → backD vs ds ds2 = ds) ∧ (b p = true → ∃ ds3, f ds2 = .ok (v p, ds3) ∧ backD vs ds ds3 = ds)) → lcD vs g t f (ps.map e) ds = .ok ((ps.filter b).map v, ds)
  | [], _ => rfl
  | p :: ps, h => by
    obtain ⟨ds1, ds2, h1, h2, h3, h4⟩ := h p List.mem_cons_self
    have ih := lcD_filter e b v hno ps fun q hq => h q (List.mem_cons_of_mem _ hq)
    cases hb : b p with
    | false => simp only [List.map_cons, lcD, hno, if_true, h1, h2, hb, quiet, R.bind_ok, h3 hb, ih, Bool.false_eq_true, if_false, List.filter_cons]
    | true =>
      obtain ⟨ds3, h5, h6⟩ := h4 hb
      simp only [List.map_cons, lcD, hno, if_true, h1, h2, hb, quiet, R.bind_ok, h5, h6, ih, List.filter_cons, List.map_cons]
end
theorem bools_map {α : Type} (p : α → Bool) : ∀ l : List α, bools (l.map fun x => D.bl (p x)) = some (l.map p)
  | [] => rfl
  | x :: l => by simp [bools, bools_map p l]
/-! ### is_over -/
def overB (s g : List Nat) (a b : Int) : Bool := decide (a ≤ s.length) && decide ((s.length : Int) ≤ b) && s.all fun c => g.contains c
theorem chars_in (s g : List Nat) (x y : Sl) (z : Sl) (w : D) : lcD [4] (gSet 4) bYes (fBin dIn (vGet 4) (vGet 1)) (s.map fun c => D.str [c]) [.val w, .val (.str g), x, y, .emp] = .ok (s.map fun c => D.bl (g.contains c), [.val w, .val (.str g), x, y, .emp]) := by
  refine lcD_map (fun c => D.str [c]) (fun c => D.bl (g.contains c)) (by rfl) s fun c _ => ⟨_, [.val w, .val (.str g), x, y, .val (.str [c])], rfl, ?_, rfl⟩
  simp [fBin, vGet, R.bind, lft, dIn, wipeD, gSet]
theorem is_over_spec (fuel : Nat) (s g : List Nat) (a b : Int) : F_is_over fuel [.val (.str s), .val (.str g), .val (.int a), .val (.int b)] = .ret (.bl (overB s g a b)) [] := by
  have hc := chars_in s g (.val (.int a)) (.val (.int b)) .emp (.str s)
  by_cases h1 : a ≤ s.length
  · by_cases h2 : (s.length : Int) ≤ b
    · simp [F_is_over, defD, ownIx, B_is_over, sRet, fAnd, fCall, aCons, aNil, vGet, vC, R.bind, dIsi, tyD, isTy, lft, fChain, dLe, dLen, h1, h2, ofO, oLc, iSeq, hc, dOf, dAll, bools_map, toOut, DL.finish, outsOf, overB, List.replicate]
    · simp [F_is_over, defD, ownIx, B_is_over, sRet, fAnd, fCall, aCons, aNil, vGet, vC, R.bind, dIsi, tyD, isTy, lft, fChain, dLe, dLen, h1, h2, toOut, DL.finish, outsOf, overB, List.replicate]
  · simp [F_is_over, defD, ownIx, B_is_over, sRet, fAnd, fCall, aCons, aNil, vGet, vC, R.bind, dIsi, tyD, isTy, lft, fChain, dLe, dLen, h1, toOut, DL.finish, outsOf, overB, List.replicate]
/-! ### templates -/
inductive Pt where
  | text (s : List Nat) | field (n : List Nat) | opt (n : List Nat) (ps : List Pt) | rep (n s : List Nat) (ps : List Pt)
def kT : List Nat := [116, 101, 120, 116]
def kF : List Nat := [102, 105, 101, 108, 100]
def kI : List Nat := [105, 102]
def kE : List Nat := [101, 97, 99, 104]
def LET : List Nat := [97, 98, 99, 100, 101, 102, 103, 104, 105, 106, 107, 108, 109, 110, 111, 112, 113, 114, 115, 116, 117, 118, 119, 120, 121, 122]
def LIT : List Nat := [97, 98, 99, 100, 101, 102, 103, 104, 105, 106, 107, 108, 109, 110, 111, 112, 113, 114, 115, 116, 117, 118, 119, 120, 121, 122, 32, 46, 44, 58, 45, 47]
mutual
def enc : Pt → D
  | .text s => .tup [.str kT, .str s]
  | .field n => .tup [.str kF, .str n]
  | .opt n ps => .tup [.str kI, .str n, .tup (encs ps)]
  | .rep n s ps => .tup [.str kE, .str n, .str s, .tup (encs ps)]
def encs : List Pt → List D
  | [] => []
  | p :: ps => enc p :: encs ps
end
theorem encs_map : ∀ ps : List Pt, encs ps = ps.map enc
  | [] => by simp [encs]
  | p :: ps => by simp [encs, encs_map ps]
theorem encs_len (ps : List Pt) : (encs ps).length = ps.length := by rw [encs_map, List.length_map]
def isText : Pt → Bool
  | .text _ => true
  | _ => false
def isField : Pt → Bool
  | .field _ => true
  | _ => false
/-- what stands at place 1 -/
def nm : Pt → List Nat
  | .text s => s
  | .field n => n
  | .opt n _ => n
  | .rep n _ _ => n
def kind : Pt → List Nat
  | .text _ => kT
  | .field _ => kF
  | .opt _ _ => kI
  | .rep _ _ _ => kE
def inn : Pt → List Pt
  | .opt _ ps => ps
  | .rep _ _ ps => ps
  | _ => []
def named (ps : List Pt) : List Pt := ps.filter fun p => !isText p
def names (ps : List Pt) : List (List Nat) := (named ps).map nm
def distinct (l : List (List Nat)) : Bool := decide (l.length = (uqN l).length)
mutual
def goodP : Nat → Pt → Bool
  | _, .text s => overB s LIT 1 6
  | _, .field n => overB n LET 1 4
  | d, .opt n ps => overB n LET 1 4 && (decide (0 < d) && goodPs (d - 1) ps)
  | d, .rep n s ps => overB n LET 1 4 && (decide (d ≠ 0) && (overB s LIT 0 3 && (goodPs (d - 1) ps && ps.any isField)))
def goodPs : Nat → List Pt → Bool
  | d, ps => decide (1 ≤ ps.length) && (decide (ps.length ≤ 6) && (goodAll d ps && distinct (names ps)))
def goodAll : Nat → List Pt → Bool
  | _, [] => true
  | d, p :: ps => goodP d p && goodAll d ps
end
theorem goodAll_all (d : Nat) : ∀ ps : List Pt, goodAll d ps = ps.all (goodP d)
  | [] => by simp [goodAll]
  | p :: ps => by simp [goodAll, goodAll_all d ps]
theorem enc_0 (p : Pt) : dGetI (enc p) (.int 0) = some (.str (kind p)) := by cases p <;> simp [enc, dGetI, dIx, atD, kind]
theorem enc_1 (p : Pt) : dGetI (enc p) (.int 1) = some (.str (nm p)) := by cases p <;> simp [enc, dGetI, dIx, atD, nm]
theorem eq_str (a b : List Nat) : dEq (.str a) (.str b) = some (.bl (decide (a = b))) := rfl
theorem ne_str (a b : List Nat) : dNe (.str a) (.str b) = some (.bl (!decide (a = b))) := rfl
theorem eq_int (a b : Int) : dEq (.int a) (.int b) = some (.bl (a == b)) := rfl
theorem ne_int (a b : Int) : dNe (.int a) (.int b) = some (.bl (!(a == b))) := rfl
theorem kind_text (p : Pt) : (kind p = [116, 101, 120, 116]) = (isText p = true) := by cases p <;> simp [kind, isText, kT, kF, kI, kE]
theorem kind_field (p : Pt) : (kind p = [102, 105, 101, 108, 100]) = (isField p = true) := by cases p <;> simp [kind, isField, kT, kF, kI, kE]
theorem nat_beq (a b : Nat) : ((a : Int) == (b : Int)) = decide (a = b) := by
  by_cases h : a = b
  · subst h; simp
  · rw [decide_eq_false h]; exact beq_eq_false_iff_ne.mpr (by omega)
theorem strsD_map (l : List (List Nat)) : strsD (l.map .str) = some l := by induction l with
  | nil => rfl
  | cons x l ih => simp [strsD, ih]
section
variable {c0 c1 : Nat → List Sl → Res} {fuel : Nat}
theorem are_parts_step (d : Nat) (ps : List Pt) (h1 : ps.length ≤ 6 → ∀ p ∈ ps, c1 fuel [.val (enc p), .val (.int d)] = .ret (.bl (goodP d p)) []) :
    defD [] 4 (B_are_parts c0 c1) fuel [.val (.tup (encs ps)), .val (.int d)] = .ret (.bl (goodPs d ps)) [] := by
  have hl := encs_len ps
  by_cases l1 : 1 ≤ ps.length
  · by_cases l6 : ps.length ≤ 6
    · have e1 : lcD [3] (gSet 3) bYes (fCallF (c1 fuel) (aaVal (vGet 3) (aaVal (vGet 1) aaNil))) (encs ps) [.val (.tup (encs ps)), .val (.int d), .emp, .emp] = .ok (ps.map fun p => D.bl (goodP d p), [.val (.tup (encs ps)), .val (.int d), .emp, .emp]) := by
        rw [encs_map ps]
        refine lcD_map enc (fun p => D.bl (goodP d p)) (by rfl) ps fun p hp => ⟨_, [.val (.tup (ps.map enc)), .val (.int d), .emp, .val (enc p)], rfl, ?_, rfl⟩
        simp [fCallF, aaVal, aaNil, vGet, R.bind, asOf, idxOf, wipeD, gSet, h1 l6 p hp, putCs]
      by_cases ha : ps.all (goodP d) = true
      · have e2 : lcD [3] (gSet 3) (toB (fBin dNe (fBin dGetI (vGet 3) (vC (.int 0))) (vC (.str [116, 101, 120, 116])))) (fBin dGetI (vGet 3) (vC (.int 1))) (encs ps) [.val (.tup (encs ps)), .val (.int d), .emp, .emp] = .ok ((names ps).map .str, [.val (.tup (encs ps)), .val (.int d), .emp, .emp]) := by
          rw [encs_map ps, names, List.map_map]
          refine lcD_filter enc (fun p => !isText p) (fun p => D.str (nm p)) (by rfl) ps fun p hp => ⟨[.val (.tup (ps.map enc)), .val (.int d), .emp, .val (enc p)], [.val (.tup (ps.map enc)), .val (.int d), .emp, .val (enc p)], rfl, ?_, fun _ => rfl, fun _ => ⟨[.val (.tup (ps.map enc)), .val (.int d), .emp, .val (enc p)], ?_, rfl⟩⟩
          · simp [toB, fBin, vGet, vC, R.bind, lft, enc_0, ne_str, kind_text]
          · simp [fBin, vGet, vC, R.bind, lft, enc_1]
        have hn : (names ps).length < 100 := by
          have := List.length_filter_le (fun p => !isText p) ps
          unfold names named; rw [List.length_map]; omega
        have l1' : decide ((1 : Int) ≤ (ps.length : Int)) = true := decide_eq_true (by omega)
        have l6' : decide ((ps.length : Int) ≤ 6) = true := decide_eq_true (by omega)
        simp [defD, ownIx, B_are_parts, sSeq, sIf, bOr, bNot, toB, fCall, aCons, aNil, vGet, vC, R.bind, dIsi, tyD, isTy, lft, fChain, dLe, dLen, hl, l1, l6, l1', l6', toOut, sNx, ofO, oLc, iSeq, e1, dOf, dAll, bools_map, ha, sSetL, e2, sRet, fBin, fLenSet, strsD_map, hn, eq_int, nat_beq, DL.finish, outsOf, goodPs, goodAll_all, distinct, List.replicate]
      · have ha' : ps.all (goodP d) = false := by simpa using ha
        have l1' : decide ((1 : Int) ≤ (ps.length : Int)) = true := decide_eq_true (by omega)
        have l6' : decide ((ps.length : Int) ≤ 6) = true := decide_eq_true (by omega)
        simp [defD, ownIx, B_are_parts, sSeq, sIf, bOr, bNot, toB, fCall, aCons, aNil, vGet, vC, R.bind, dIsi, tyD, isTy, lft, fChain, dLe, dLen, hl, l1, l6, l1', l6', toOut, sNx, ofO, oLc, iSeq, e1, dOf, dAll, bools_map, ha', sRet, DL.finish, outsOf, goodPs, goodAll_all, List.replicate]
    · have l1' : decide ((1 : Int) ≤ (ps.length : Int)) = true := decide_eq_true (by omega)
      have l6' : decide ((ps.length : Int) ≤ 6) = false := decide_eq_false (by omega)
      simp [defD, ownIx, B_are_parts, sSeq, sIf, bOr, bNot, toB, fCall, aCons, aNil, vGet, vC, R.bind, dIsi, tyD, isTy, lft, fChain, dLe, dLen, hl, l1, l6, l1', l6', toOut, sRet, DL.finish, outsOf, goodPs, List.replicate]
  · have l1' : decide ((1 : Int) ≤ (ps.length : Int)) = false := decide_eq_false (by omega)
    simp [defD, ownIx, B_are_parts, sSeq, sIf, bOr, bNot, toB, fCall, aCons, aNil, vGet, vC, R.bind, dIsi, tyD, isTy, lft, fChain, dLe, dLen, hl, l1, l1', toOut, sRet, DL.finish, outsOf, goodPs, List.replicate]
theorem is_part_step (d : Nat) (p : Pt) (h0 : ∀ ps, 0 < d → c0 fuel [.val (.tup (encs ps)), .val (.int ((d : Int) - 1))] = .ret (.bl (goodPs (d - 1) ps)) []) :
    defD [] 4 (B_is_part c0 c1) fuel [.val (enc p), .val (.int d)] = .ret (.bl (goodP d p)) [] := by
  cases p with
  | text s =>
    simp [defD, ownIx, enc, B_is_part, B_is_part_i0, sSeq, sIf, bOr, bNot, toB, fCall, aCons, aNil, vGet, vC, R.bind, dIsi, tyD, isTy, lft, dLen, dLt, toOut, sNx, sAsg, gSet, fBin, dGetI, dIx, atD, eq_str, kT, sRet, fAnd, eq_int, fCallF, aaVal, aaNil, asOf, idxOf, is_over_spec, putCs, DL.finish, outsOf, goodP, LIT, List.replicate]
  | field n =>
    by_cases hn : overB n LET 1 4 = true
    · have hn' := hn
      simp only [LET] at hn
      simp [defD, ownIx, enc, B_is_part, sSeq, sIf, bOr, bNot, toB, fCall, aCons, aNil, vGet, vC, R.bind, dIsi, tyD, isTy, lft, dLen, dLt, toOut, sNx, sAsg, gSet, fBin, dGetI, dIx, atD, eq_str, kF, sRet, eq_int, fCallF, aaVal, aaNil, asOf, idxOf, is_over_spec, hn, hn', putCs, DL.finish, outsOf, goodP, List.replicate]
    · have hn' : overB n LET 1 4 = false := by simpa using hn
      have hn := hn'
      simp only [LET] at hn
      simp [defD, ownIx, enc, B_is_part, sSeq, sIf, bOr, bNot, toB, fCall, aCons, aNil, vGet, vC, R.bind, dIsi, tyD, isTy, lft, dLen, dLt, toOut, sNx, sAsg, gSet, fBin, dGetI, dIx, atD, eq_str, kF, sRet, eq_int, fCallF, aaVal, aaNil, asOf, idxOf, is_over_spec, hn, hn', putCs, DL.finish, outsOf, goodP, List.replicate]
  | opt n ps =>
    by_cases hn : overB n LET 1 4 = true
    · have hn' := hn
      simp only [LET] at hn
      by_cases hd : 0 < d
      · have hd' : decide ((0 : Int) < (d : Int)) = true := decide_eq_true (by omega)
        simp [defD, ownIx, enc, B_is_part, B_is_part_i1, sSeq, sIf, bOr, bNot, toB, fCall, aCons, aNil, vGet, vC, R.bind, dIsi, tyD, isTy, lft, dLen, dLt, toOut, sNx, sAsg, gSet, fBin, dGetI, dIx, atD, eq_str, ne_str, sRet, fAnd, dGt, dSub, eq_int, ne_int, fCallF, aaVal, aaNil, asOf, idxOf, is_over_spec, putCs, DL.finish, outsOf, goodP, List.replicate, kI, hn, hn', hd, hd', h0 ps hd]
      · have hd' : decide ((0 : Int) < (d : Int)) = false := decide_eq_false (by omega)
        simp [defD, ownIx, enc, B_is_part, B_is_part_i1, sSeq, sIf, bOr, bNot, toB, fCall, aCons, aNil, vGet, vC, R.bind, dIsi, tyD, isTy, lft, dLen, dLt, toOut, sNx, sAsg, gSet, fBin, dGetI, dIx, atD, eq_str, ne_str, sRet, fAnd, dGt, dSub, eq_int, ne_int, fCallF, aaVal, aaNil, asOf, idxOf, is_over_spec, putCs, DL.finish, outsOf, goodP, List.replicate, kI, hn, hn', hd, hd']
    · have hn' : overB n LET 1 4 = false := by simpa using hn
      have hn := hn'
      simp only [LET] at hn
      simp [defD, ownIx, enc, B_is_part, B_is_part_i1, sSeq, sIf, bOr, bNot, toB, fCall, aCons, aNil, vGet, vC, R.bind, dIsi, tyD, isTy, lft, dLen, dLt, toOut, sNx, sAsg, gSet, fBin, dGetI, dIx, atD, eq_str, ne_str, sRet, fAnd, dGt, dSub, eq_int, ne_int, fCallF, aaVal, aaNil, asOf, idxOf, is_over_spec, putCs, DL.finish, outsOf, goodP, List.replicate, kI, hn, hn']
  | rep n s ps =>
    have hany : ∀ (x y : Sl) (v : D), lcD [3] (gSet 3) bYes (fBin dEq (fBin dGetI (vGet 3) (vC (.int 0))) (vC (.str [102, 105, 101, 108, 100]))) (encs ps) [x, y, .val v, .emp] = .ok (ps.map fun p => D.bl (isField p), [x, y, .val v, .emp]) := fun x y v => by
      rw [encs_map ps]
      refine lcD_map enc (fun p => D.bl (isField p)) (by rfl) ps fun p hp => ⟨_, [x, y, .val v, .val (enc p)], rfl, ?_, rfl⟩
      simp [fBin, vGet, vC, R.bind, lft, enc_0, eq_str, kind_field, wipeD, gSet]
    cases hn : overB n LET 1 4 with
    | false =>
      have hn' := hn
      simp only [LET] at hn
      simp [defD, ownIx, enc, B_is_part, B_is_part_i1, sSeq, sIf, bOr, bNot, toB, fCall, aCons, aNil, vGet, vC, R.bind, dIsi, tyD, isTy, lft, dLen, dLt, toOut, sNx, sAsg, gSet, fBin, dGetI, dIx, atD, eq_str, ne_str, sRet, fAnd, dGt, dSub, eq_int, ne_int, fCallF, aaVal, aaNil, asOf, idxOf, is_over_spec, putCs, DL.finish, outsOf, goodP, List.replicate, kE, hn, hn']
    | true =>
      have hn' := hn
      simp only [LET] at hn
      by_cases hd : d = 0
      · subst hd
        simp [defD, ownIx, enc, B_is_part, B_is_part_i1, sSeq, sIf, bOr, bNot, toB, fCall, aCons, aNil, vGet, vC, R.bind, dIsi, tyD, isTy, lft, dLen, dLt, toOut, sNx, sAsg, gSet, fBin, dGetI, dIx, atD, eq_str, ne_str, sRet, fAnd, dGt, dSub, eq_int, ne_int, fCallF, aaVal, aaNil, asOf, idxOf, is_over_spec, putCs, DL.finish, outsOf, goodP, List.replicate, kE, hn, hn']
      · have hd' : ((d : Int) == 0) = false := beq_eq_false_iff_ne.mpr (by omega)
        have hp : 0 < d := by omega
        cases hs : overB s LIT 0 3 with
        | false =>
          have hs' := hs
          simp only [LIT] at hs
          simp [defD, ownIx, enc, B_is_part, B_is_part_i1, sSeq, sIf, bOr, bNot, toB, fCall, aCons, aNil, vGet, vC, R.bind, dIsi, tyD, isTy, lft, dLen, dLt, toOut, sNx, sAsg, gSet, fBin, dGetI, dIx, atD, eq_str, ne_str, sRet, fAnd, dGt, dSub, eq_int, ne_int, fCallF, aaVal, aaNil, asOf, idxOf, is_over_spec, putCs, DL.finish, outsOf, goodP, List.replicate, kE, hn, hn', hd, hd', hs, hs']
        | true =>
          have hs' := hs
          simp only [LIT] at hs
          cases hg : goodPs (d - 1) ps with
          | false => simp [defD, ownIx, enc, B_is_part, B_is_part_i1, sSeq, sIf, bOr, bNot, toB, fCall, aCons, aNil, vGet, vC, R.bind, dIsi, tyD, isTy, lft, dLen, dLt, toOut, sNx, sAsg, gSet, fBin, dGetI, dIx, atD, eq_str, ne_str, sRet, fAnd, dGt, dSub, eq_int, ne_int, fCallF, aaVal, aaNil, asOf, idxOf, is_over_spec, putCs, DL.finish, outsOf, goodP, List.replicate, kE, hn, hn', hd, hd', hs, hs', hg, h0 ps hp]
          | true => simp [defD, ownIx, enc, B_is_part, B_is_part_i1, sSeq, sIf, bOr, bNot, toB, fCall, aCons, aNil, vGet, vC, R.bind, dIsi, tyD, isTy, lft, dLen, dLt, toOut, sNx, sAsg, gSet, fBin, dGetI, dIx, atD, eq_str, ne_str, sRet, fAnd, dGt, dSub, eq_int, ne_int, fCallF, aaVal, aaNil, asOf, idxOf, is_over_spec, putCs, DL.finish, outsOf, goodP, List.replicate, kE, hn, hn', hd, hd', hs, hs', hg, h0 ps hp, ofO, oLc, iSeq, hany, dOf, dAny, bools_map]
end
theorem parts_spec (fuel : Nat) : ∀ r : Nat, (∀ d ps, 2 * d + 2 ≤ r → G_are_parts r 0 fuel [.val (.tup (encs ps)), .val (.int (d : Nat))] = .ret (.bl (goodPs d ps)) []) ∧ (∀ d p, 2 * d + 1 ≤ r → G_are_parts r 1 fuel [.val (enc p), .val (.int (d : Nat))] = .ret (.bl (goodP d p)) [])
  | 0 => ⟨fun d ps h => by omega, fun d p h => by omega⟩
  | r + 1 => by
    obtain ⟨i0, i1⟩ := parts_spec fuel r
    refine ⟨fun d ps h => are_parts_step d ps fun _ p _ => i1 d p (by omega), fun d p h => is_part_step d p fun ps hd => ?_⟩
    have e : ((d : Int) - 1) = ((d - 1 : Nat) : Int) := by omega
    rw [e]
    exact i0 (d - 1) ps (by omega)
theorem in2 (k a b : List Nat) : dIn (.str k) (.tup [.str a, .str b]) = some (.bl (decide (a = k) || (decide (b = k) || false))) := rfl
theorem inner_spec (fuel : Nat) (p : Pt) : F_inner fuel [.val (enc p)] = .ret (.tup (encs (inn p))) [] := by
  cases p <;> simp [F_inner, defD, ownIx, B_inner, sRet, fIf, toB, fBin, vGet, vC, R.bind, lft, enc, dGetI, dIx, atD, mkTup, aCons, aNil, Ln, in2, kT, kF, kI, kE, fUn, dNeg, toOut, DL.finish, outsOf, inn, encs, List.replicate]
/-! how deep; how many parts, sections -/
mutual
def hgP : Pt → Nat
  | .text _ => 0
  | .field _ => 0
  | .opt _ ps => hgs ps
  | .rep _ _ ps => hgs ps
def hgs : List Pt → Nat
  | [] => 0
  | p :: ps => max (hgP p + 1) (hgs ps)
end
mutual
def mcP : Pt → Nat × Nat
  | .text _ => (0, 0)
  | .field _ => (0, 0)
  | .opt _ ps => mcs ps
  | .rep _ _ ps => mcs ps
def mcs : List Pt → Nat × Nat
  | [] => (0, 0)
  | p :: ps => (1 + (mcP p).1 + (mcs ps).1, (if (inn p).isEmpty then 0 else 1) + (mcP p).2 + (mcs ps).2)
end
theorem hgs_inn (p : Pt) : hgP p = hgs (inn p) := by cases p <;> simp [hgP, inn, hgs]
theorem mcs_inn (p : Pt) : mcP p = mcs (inn p) := by cases p <;> simp [mcP, inn, mcs]
theorem hgs_mem : ∀ {ps : List Pt} {p : Pt}, p ∈ ps → hgP p + 1 ≤ hgs ps
  | q :: ps, p, h => by
    unfold hgs
    rcases List.mem_cons.mp h with rfl | h
    · exact Nat.le_max_left _ _
    · exact Nat.le_trans (hgs_mem h) (Nat.le_max_right _ _)
theorem intsD_map {α : Type} (f : α → Int) : ∀ l : List α, intsD (l.map fun x => D.int (f x)) = some (l.map f)
  | [] => rfl
  | x :: l => by simp [intsD, intsD_map f l]
theorem mcs_cons (p : Pt) (ps : List Pt) : mcs (p :: ps) = (1 + (mcP p).1 + (mcs ps).1, (if (inn p).isEmpty then 0 else 1) + (mcP p).2 + (mcs ps).2) := by rw [mcs]
theorem mcs_sum : ∀ ps : List Pt, mcs ps = (ps.length + (ps.map fun p => (mcs (inn p)).1).sum, (ps.filter fun p => !(inn p).isEmpty).length + (ps.map fun p => (mcs (inn p)).2).sum)
  | [] => rfl
  | p :: ps => by
    rw [mcs_cons, mcs_sum ps, mcs_inn]
    cases h : (inn p).isEmpty <;> simp only [List.filter_cons, h, List.length_cons, List.map_cons, List.sum_cons, Bool.not_false, Bool.not_true, if_true, Bool.false_eq_true, if_false, Prod.mk.injEq] <;> omega
theorem plain_enc : ∀ n : Nat, (∀ l : List Pt, 2 * hgs l + 1 ≤ n → plainD n (.tup (encs l)) = true) ∧ (∀ p : Pt, 2 * hgP p + 2 ≤ n → plainD n (enc p) = true)
  | 0 => ⟨fun l h => by omega, fun p h => by omega⟩
  | n + 1 => by
    obtain ⟨i1, i2⟩ := plain_enc n
    refine ⟨fun l h => ?_, fun p h => ?_⟩
    · show (encs l).all (plainD n) = true
      rw [encs_map, List.all_map, List.all_eq_true]
      exact fun p hp => i2 p (by have := hgs_mem hp; omega)
    · cases n with
      | zero => omega
      | succ n =>
        cases p with
        | text s => rfl
        | field s => rfl
        | opt s ps =>
          have := i1 ps (by simp only [hgP] at h; omega)
          simp only [enc, plainD, List.all_cons, List.all_nil, Bool.and_true, Bool.true_and] at this ⊢
          exact this
        | rep s t ps =>
          have := i1 ps (by simp only [hgP] at h; omega)
          simp only [enc, plainD, List.all_cons, List.all_nil, Bool.and_true, Bool.true_and] at this ⊢
          exact this
theorem ne_tup0 (l : List Pt) (h : hgs l ≤ 20) : dNe (.tup (encs l)) (.tup []) = some (.bl (!l.isEmpty)) := by
  unfold dNe
  rw [if_pos ⟨(plain_enc 60).1 l (by omega), rfl⟩]
  cases l with
  | nil => rfl
  | cons p l => rw [encs]; rfl
theorem len_big : (20 : Nat) ≤ 20 := Nat.le_refl _
theorem many_spec (fuel : Nat) : ∀ (r : Nat) (ps : List Pt), hgs ps + 1 ≤ r → hgs ps ≤ 20 → F_many_parts r fuel [.val (.tup (encs ps))] = .ret (.tup [.int (mcs ps).1, .int (mcs ps).2]) []
  | 0, ps, h, _ => by omega
  | r + 1, ps, h, h20 => by
    show defD [] 5 (B_many_parts (F_many_parts r)) fuel [.val (.tup (encs ps))] = _
    have e1 : lcD [3] (gSet 3) bYes (fCallF (F_many_parts r fuel) (aaVal (fCallF (F_inner fuel) (aaVal (vGet 3) aaNil)) aaNil)) (encs ps) [.val (.tup (encs ps)), .emp, .emp, .emp, .emp] = .ok (ps.map fun p => D.tup [.int (mcs (inn p)).1, .int (mcs (inn p)).2], [.val (.tup (encs ps)), .emp, .emp, .emp, .emp]) := by
      rw [encs_map ps]
      refine lcD_map enc _ (by rfl) ps fun p hp => ⟨_, [.val (.tup (ps.map enc)), .emp, .emp, .val (enc p), .emp], rfl, ?_, rfl⟩
      have hr : hgs (inn p) + 1 ≤ r := by have := hgs_mem hp; rw [hgs_inn] at this; omega
      have e := many_spec fuel r (inn p) hr (by have := hgs_mem hp; rw [hgs_inn] at this; omega)
      simp only [F_many_parts] at e
      simp [fCallF, aaVal, aaNil, vGet, R.bind, asOf, idxOf, wipeD, gSet, inner_spec, e, putCs, F_many_parts]
    have e2 : lcD [3] (gSet 3) (toB (fBin dNe (fCallF (F_inner fuel) (aaVal (vGet 3) aaNil)) (mkTup aNil))) (vGet 3) (encs ps) [.val (.tup (encs ps)), .val (.lst (ps.map fun p => D.tup [.int (mcs (inn p)).1, .int (mcs (inn p)).2])), .emp, .emp, .emp] = .ok ((ps.filter fun p => !(inn p).isEmpty).map enc, [.val (.tup (encs ps)), .val (.lst (ps.map fun p => D.tup [.int (mcs (inn p)).1, .int (mcs (inn p)).2])), .emp, .emp, .emp]) := by
      generalize ps.map (fun p => D.tup [.int (mcs (inn p)).1, .int (mcs (inn p)).2]) = q
      rw [encs_map ps]
      refine lcD_filter enc (fun p => !(inn p).isEmpty) enc (by rfl) ps fun p hp => ⟨[.val (.tup (ps.map enc)), .val (.lst q), .emp, .val (enc p), .emp], [.val (.tup (ps.map enc)), .val (.lst q), .emp, .val (enc p), .emp], rfl, ?_, fun _ => rfl, fun _ => ⟨[.val (.tup (ps.map enc)), .val (.lst q), .emp, .val (enc p), .emp], ?_, rfl⟩⟩
      · have hn := ne_tup0 (inn p) (by have := hgs_mem hp; rw [hgs_inn] at this; omega)
        simp [toB, fBin, fCallF, aaVal, aaNil, vGet, R.bind, asOf, idxOf, inner_spec, putCs, mkTup, aNil, Ln, hn, lft]
      · simp [vGet]
    have e3 : ∀ (k : Int) (pr : Nat × Nat → Nat) (x y : Sl), (∀ a b : Nat, dGetI (.tup [.int a, .int b]) (.int k) = some (.int (pr (a, b)))) → lcD [4] (gSet 4) bYes (fBin dGetI (vGet 4) (vC (.int k))) (ps.map fun p => D.tup [.int (mcs (inn p)).1, .int (mcs (inn p)).2]) [x, y, .val (.int (ps.filter fun p => !(inn p).isEmpty).length), .emp, .emp] = .ok (ps.map fun p => D.int (pr (mcs (inn p))), [x, y, .val (.int (ps.filter fun p => !(inn p).isEmpty).length), .emp, .emp]) := fun k pr x y hk => by
      refine lcD_map _ _ (by rfl) ps fun p hp => ⟨_, [x, y, .val (.int (ps.filter fun p => !(inn p).isEmpty).length), .emp, .val (D.tup [.int (mcs (inn p)).1, .int (mcs (inn p)).2])], rfl, ?_, rfl⟩
      simp only [fBin, vGet, vC, R.bind_ok, wipeD, gSet, List.foldl_cons, List.foldl_nil, List.set_cons_succ, List.set_cons_zero, List.getElem?_cons_succ, List.getElem?_cons_zero, hk, lft_some]
    have a0 := e3 0 Prod.fst (.val (.tup (encs ps))) (.val (.lst (ps.map fun p => D.tup [.int (mcs (inn p)).1, .int (mcs (inn p)).2]))) fun a b => rfl
    have a1 := e3 1 Prod.snd (.val (.tup (encs ps))) (.val (.lst (ps.map fun p => D.tup [.int (mcs (inn p)).1, .int (mcs (inn p)).2]))) fun a b => rfl
    have s0 := intsD_map (fun p : Pt => ((mcs (inn p)).1 : Int)) ps
    have s1 := intsD_map (fun p : Pt => ((mcs (inn p)).2 : Int)) ps
    have c0 : ∀ (f : Pt → Nat) (l : List Pt), (l.map fun p => (f p : Int)).sum = ((l.map f).sum : Nat) := fun f l => by
      induction l with
      | nil => rfl
      | cons x l ih => simp [ih]
    have hl := encs_len ps
    rw [mcs_sum ps]
    simp [defD, ownIx, B_many_parts, sSeq, sSetL, oLc, iSeq, vGet, R.bind, e1, dOf, toOut, sAsg, fCall, aCons, aNil, ofO, e2, lft, dLen, gSet, sRet, mkTup, fBin, hl, a0, a1, dSum, s0, s1, c0, dAdd, Ln, DL.finish, outsOf, List.replicate]
theorem good_hgs : ∀ d : Nat, (∀ ps, goodPs d ps = true → hgs ps ≤ d + 1) ∧ (∀ p, goodP d p = true → hgP p ≤ d) := by
  have lift : ∀ d, (∀ p, goodP d p = true → hgP p ≤ d) → ∀ ps, goodPs d ps = true → hgs ps ≤ d + 1 := fun d h ps hg => by
    have ha : ps.all (goodP d) = true := by
      simp only [goodPs, goodAll_all, Bool.and_eq_true] at hg
      exact hg.2.2.1
    clear hg
    induction ps with
    | nil => exact Nat.zero_le _
    | cons p ps ih =>
      rw [List.all_cons, Bool.and_eq_true] at ha
      have h1 := h p ha.1
      have h2 := ih ha.2
      unfold hgs
      omega
  intro d
  induction d with
  | zero =>
    have key : ∀ p, goodP 0 p = true → hgP p ≤ 0 := fun p hp => by
      cases p with
      | text s => exact Nat.le_refl _
      | field s => exact Nat.le_refl _
      | opt n ps => simp [goodP] at hp
      | rep n s ps => simp [goodP] at hp
    exact ⟨lift 0 key, key⟩
  | succ d ih =>
    have key : ∀ p, goodP (d + 1) p = true → hgP p ≤ d + 1 := fun p hp => by
      cases p with
      | text s => exact Nat.zero_le _
      | field s => exact Nat.zero_le _
      | opt n ps =>
        simp only [goodP, Bool.and_eq_true, Nat.add_sub_cancel] at hp
        simp only [hgP]
        exact ih.1 ps hp.2.2
      | rep n s ps =>
        simp only [goodP, Bool.and_eq_true, Nat.add_sub_cancel] at hp
        simp only [hgP]
        exact ih.1 ps hp.2.2.2.1
    exact ⟨lift (d + 1) key, key⟩
def tmplB (ps : List Pt) : Bool := goodPs 3 ps && (decide ((mcs ps).1 ≤ 12) && decide ((mcs ps).2 ≤ 4))
theorem is_template_spec (fuel : Nat) (ps : List Pt) : F_is_template fuel [.val (.tup (encs ps))] = .ret (.bl (tmplB ps)) [] := by
  have e1 := (parts_spec fuel 10).1 3 ps (by decide)
  have e1 : G_are_parts 10 0 fuel [.val (.tup (encs ps)), .val (.int 3)] = .ret (.bl (goodPs 3 ps)) [] := e1
  cases hg : goodPs 3 ps with
  | false =>
    rw [hg] at e1
    simp [F_is_template, defD, ownIx, B_is_template, sSeq, sIf, bNot, toB, fCallF, aaVal, aaNil, vGet, vC, R.bind, asOf, idxOf, e1, putCs, toOut, sRet, DL.finish, outsOf, tmplB, hg, List.replicate]
  | true =>
    rw [hg] at e1
    have hh := (good_hgs 3).1 ps hg
    have e2 := many_spec fuel 6 ps (by omega) (by omega)
    have c1 : decide (((mcs ps).1 : Int) ≤ 12) = decide ((mcs ps).1 ≤ 12) := by
      by_cases h : (mcs ps).1 ≤ 12
      · rw [decide_eq_true h]; exact decide_eq_true (by omega)
      · rw [decide_eq_false h]; exact decide_eq_false (by omega)
    have c2 : decide (((mcs ps).2 : Int) ≤ 4) = decide ((mcs ps).2 ≤ 4) := by
      by_cases h : (mcs ps).2 ≤ 4
      · rw [decide_eq_true h]; exact decide_eq_true (by omega)
      · rw [decide_eq_false h]; exact decide_eq_false (by omega)
    have le1 : dLe (.int (mcs ps).1) (.int 12) = some (.bl (decide ((mcs ps).1 ≤ 12))) := by rw [← c1]; rfl
    have le2 : dLe (.int (mcs ps).2) (.int 4) = some (.bl (decide ((mcs ps).2 ≤ 4))) := by rw [← c2]; rfl
    cases h12 : decide ((mcs ps).1 ≤ 12) <;>
    simp [F_is_template, defD, ownIx, B_is_template, sSeq, sIf, bNot, toB, fCallF, aaVal, aaNil, vGet, vC, R.bind, asOf, idxOf, e1, e2, putCs, toOut, sNx, sAsg, gTupD, gConsD, gNilD, gSet, sRet, fAnd, fBin, le1, le2, h12, lft, DL.finish, outsOf, tmplB, hg, List.replicate]
theorem need_template_spec (fuel : Nat) (ps : List Pt) (h : tmplB ps = true) : F_need_template fuel [.val (.tup (encs ps))] = .ret .non [] := by
  simp [F_need_template, defD, ownIx, B_need_template, sIf, bNot, toB, fCallF, aaVal, aaNil, vGet, R.bind, asOf, idxOf, is_template_spec, h, putCs, toOut, sNx, DL.finish, outsOf, List.replicate]
/-! ### records -/
inductive Rv where
  | word (s : List Nat) | none | obj (r : List (List Nat × Rv)) | recs (rs : List Rv)
mutual
def encV : Rv → D
  | .word s => .str s
  | .none => .non
  | .obj r => .dic 0 (encR r)
  | .recs rs => .lst (encVs rs)
def encR : List (List Nat × Rv) → List (D × D)
  | [] => []
  | (k, v) :: r => (.str k, encV v) :: encR r
def encVs : List Rv → List D
  | [] => []
  | v :: r => encV v :: encVs r
end
theorem encVs_map : ∀ l : List Rv, encVs l = l.map encV
  | [] => by simp [encVs]
  | v :: l => by simp [encVs, encVs_map l]
theorem encR_map : ∀ l : List (List Nat × Rv), encR l = l.map fun kv => (D.str kv.1, encV kv.2)
  | [] => by simp [encR]
  | (k, v) :: l => by simp [encR, encR_map l]
mutual
def FitV : Pt → Rv → Prop
  | .text _, _ => False
  | .field _, v => ∃ s, v = .word s ∧ overB s LET 1 8 = true
  | .opt _ ps, v => v = .none ∨ ∃ r, v = .obj r ∧ (r.map (·.1)).Perm (names ps) ∧ FitAll ps r
  | .rep _ _ ps, v => ∃ rs, v = .recs rs ∧ rs.length ≤ 4 ∧ ∀ x ∈ rs, ∃ r, x = .obj r ∧ (r.map (·.1)).Perm (names ps) ∧ FitAll ps r
def FitAll : List Pt → List (List Nat × Rv) → Prop
  | [], _ => True
  | p :: ps, r => (isText p = false → ∃ v, r.lookup (nm p) = some v ∧ FitV p v) ∧ FitAll ps r
end
def FitR (ps : List Pt) (r : List (List Nat × Rv)) : Prop := (r.map (·.1)).Perm (names ps) ∧ FitAll ps r
theorem FitAll.mem : ∀ {ps : List Pt} {r : List (List Nat × Rv)}, FitAll ps r → ∀ p ∈ ps, isText p = false → ∃ v, r.lookup (nm p) = some v ∧ FitV p v
  | [], _, _, p, h, _ => by simp at h
  | q :: ps, r, f, p, h, ht => by
    rw [FitAll] at f
    rcases List.mem_cons.mp h with rfl | h
    · exact f.1 ht
    · exact FitAll.mem f.2 p h ht
theorem beq_str (a b : List Nat) : (D.str a).beq (.str b) = decide (a = b) := rfl
theorem lookup_dget : ∀ (r : List (List Nat × Rv)) (k : List Nat), dget (encR r) (.str k) = (r.lookup k).map encV
  | [], k => rfl
  | (a, v) :: r, k => by
    have ih := lookup_dget r k
    unfold dget at ih ⊢
    rw [encR, List.find?_cons, List.lookup_cons, beq_str]
    by_cases h : a = k
    · subst h; simp
    · have h2 : (k == a) = false := by simpa using fun q : k = a => h q.symm
      rw [decide_eq_false h, h2]
      exact ih
theorem overB_ok {s g : List Nat} {a b : Int} (hb : b ≤ 100) (hg : ∀ c ∈ g, c < 128) (h : overB s g a b = true) : okS s = true := by
  simp only [overB, Bool.and_eq_true, decide_eq_true_eq, List.all_eq_true] at h
  refine okS_mk (by unfold Ln; omega) fun c hc => hg c ?_
  simpa using h.2 c hc
theorem LET_ok : ∀ c ∈ LET, c < 128 := by decide
theorem LIT_ok : ∀ c ∈ LIT, c < 128 := by decide
theorem name_ok {d : Nat} {p : Pt} (h : goodP d p = true) (ht : isText p = false) : overB (nm p) LET 1 4 = true := by
  cases p with
  | text s => simp [isText] at ht
  | field n => simpa [goodP, nm] using h
  | opt n ps => simp only [goodP, Bool.and_eq_true] at h; exact h.1
  | rep n s ps => simp only [goodP, Bool.and_eq_true] at h; exact h.1
theorem names_ok {d : Nat} {ps : List Pt} (h : ps.all (goodP d) = true) : ∀ n ∈ names ps, okS n = true := fun n hn => by
  obtain ⟨p, hp, rfl⟩ := List.mem_map.mp hn
  obtain ⟨hp, ht⟩ := List.mem_filter.mp hp
  exact overB_ok (by decide) LET_ok (name_ok (List.all_eq_true.mp h p hp) (by simpa using ht))
theorem good_parts {d : Nat} {ps : List Pt} (h : goodPs d ps = true) : 1 ≤ ps.length ∧ ps.length ≤ 6 ∧ ps.all (goodP d) = true ∧ distinct (names ps) = true := by
  simp only [goodPs, goodAll_all, Bool.and_eq_true, decide_eq_true_eq] at h
  exact ⟨h.1, h.2.1, h.2.2.1, h.2.2.2⟩
theorem names_len {ps : List Pt} : (names ps).length ≤ ps.length := by unfold names named; rw [List.length_map]; exact List.length_filter_le _ _
theorem strKeys_enc : ∀ r : List (List Nat × Rv), strKeys (encR r) = some (r.map (·.1))
  | [] => rfl
  | (k, v) :: r => by simp [encR, strKeys, strKeys_enc r]
theorem sortN_perm_eq {a b : List (List Nat)} (h : a.Perm b) : sortN a = sortN b := sorted_uniq ((sortN_perm a).trans (h.trans (sortN_perm b).symm)) (sortN_sorted a) (sortN_sorted b)
theorem eqL_strs : ∀ l : List (List Nat), eqL (l.map .str) (l.map .str) = true
  | [] => rfl
  | x :: l => by
    show (decide (x = x) && eqL (l.map .str) (l.map .str)) = true
    rw [eqL_strs l, decide_eq_true rfl]; rfl
theorem plain_strs : ∀ l : List (List Nat), (l.map D.str).all (plainD 59) = true
  | [] => rfl
  | x :: l => by
    show (plainD 59 (.str x) && (l.map D.str).all (plainD 59)) = true
    rw [plain_strs l]; rfl
theorem ne_same (l : List (List Nat)) : dNe (.lst (l.map .str)) (.lst (l.map .str)) = some (.bl false) := by
  unfold dNe
  rw [if_pos ⟨plain_strs l, plain_strs l⟩]
  show some (D.bl (!eqL (l.map .str) (l.map .str))) = _
  rw [eqL_strs]; rfl
theorem fitK_str (k : List Nat) : fitK 0 (.str k) = true := rfl
theorem get_fit {ps : List Pt} {r : List (List Nat × Rv)} (h : FitAll ps r) {p : Pt} (hp : p ∈ ps) (ht : isText p = false) : ∃ v, dGetI (.dic 0 (encR r)) (.str (nm p)) = some (encV v) ∧ FitV p v := by
  obtain ⟨v, e, f⟩ := h.mem p hp ht
  refine ⟨v, ?_, f⟩
  show (if fitK 0 (.str (nm p)) = true then dget (encR r) (.str (nm p)) else none) = _
  rw [if_pos (fitK_str _), lookup_dget, e]; rfl
section
variable {c0 c1 : Nat → List Sl → Res} {fuel : Nat}
theorem is_value_step (p : Pt) (v : Rv) (ht : isText p = false) (hf : FitV p v) (h1 : isField p = false → ∀ r, FitR (inn p) r → c1 fuel [.val (.tup (encs (inn p))), .val (.dic 0 (encR r))] = .ret (.bl true) []) :
    defD [] 3 (B_is_value c0 c1) fuel [.val (enc p), .val (encV v)] = .ret (.bl true) [] := by
  cases p with
  | text s => simp [isText] at ht
  | field n =>
    rw [FitV] at hf
    obtain ⟨s, rfl, hs⟩ := hf
    simp only [LET] at hs
    simp [defD, ownIx, enc, encV, B_is_value, B_is_value_i0, sSeq, sIf, toB, fBin, vGet, vC, R.bind, lft, dGetI, dIx, atD, eq_str, kF, toOut, sRet, fCallF, aaVal, aaNil, asOf, idxOf, is_over_spec, hs, putCs, DL.finish, outsOf, List.replicate]
  | opt n ps =>
    rw [FitV] at hf
    rcases hf with rfl | ⟨r, rfl, hr⟩
    · simp [defD, ownIx, enc, encV, B_is_value, sSeq, sIf, toB, fBin, vGet, vC, R.bind, lft, dGetI, dIx, atD, eq_str, kI, toOut, sNx, sRet, fOr, dIs, isNonD, DL.finish, outsOf, List.replicate]
    · have e := h1 rfl r hr
      simp only [inn] at e
      simp [defD, ownIx, enc, encV, B_is_value, sSeq, sIf, toB, fBin, vGet, vC, R.bind, lft, dGetI, dIx, atD, eq_str, kI, toOut, sNx, sRet, fOr, dIs, isNonD, fCallF, aaVal, aaNil, asOf, idxOf, e, putCs, DL.finish, outsOf, List.replicate]
  | rep n s ps =>
    rw [FitV] at hf
    obtain ⟨rs, rfl, hl, hr⟩ := hf
    have e1 : lcD [2] (gSet 2) bYes (fCallF (c1 fuel) (aaVal (fBin dGetI (vGet 0) (vC (.int 3))) (aaVal (vGet 2) aaNil))) (encVs rs) [.val (enc (.rep n s ps)), .val (.lst (encVs rs)), .emp] = .ok (rs.map fun _ => D.bl true, [.val (enc (.rep n s ps)), .val (.lst (encVs rs)), .emp]) := by
      rw [encVs_map rs]
      refine lcD_map encV (fun _ => D.bl true) (by rfl) rs fun x hx => ⟨_, [.val (enc (.rep n s ps)), .val (.lst (rs.map encV)), .val (encV x)], rfl, ?_, rfl⟩
      obtain ⟨r, rfl, hq⟩ := hr x hx
      have e := h1 rfl r hq
      simp only [inn] at e
      simp [fCallF, aaVal, aaNil, fBin, vGet, vC, R.bind, lft, wipeD, gSet, enc, encV, dGetI, dIx, atD, asOf, idxOf, e, putCs]
    have hb := bools_map (fun _ : Rv => true) rs
    have hlen : (encVs rs).length = rs.length := by rw [encVs_map, List.length_map]
    have hl' : decide ((rs.length : Int) ≤ 4) = true := decide_eq_true (by omega)
    have hall : (rs.map fun _ => true).all id = true := by simp
    simp only [enc] at e1
    simp [defD, ownIx, enc, encV, B_is_value, sSeq, sIf, toB, fBin, vGet, vC, R.bind, lft, dGetI, dIx, atD, eq_str, kE, toOut, sNx, sRet, fAnd, fCall, aCons, aNil, dIsi, tyD, isTy, dLe, dLen, hlen, hl', ofO, oLc, iSeq]
    simp only [kE] at e1
    simp [e1, dOf, lft, dAll, hb, R.bind, toOut, DL.finish, outsOf]
theorem is_filling_step {d : Nat} (ps : List Pt) (hg : goodPs d ps = true) (r : List (List Nat × Rv)) (hf : FitR ps r) (h0 : ∀ p ∈ ps, isText p = false → ∀ v, FitV p v → c0 fuel [.val (enc p), .val (encV v)] = .ret (.bl true) []) :
    defD [] 5 (B_is_filling c0 c1) fuel [.val (.tup (encs ps)), .val (.dic 0 (encR r))] = .ret (.bl true) [] := by
  obtain ⟨g1, g2, g3, g4⟩ := good_parts hg
  obtain ⟨pm, fa⟩ := hf
  have nok := names_ok g3
  have kok : ∀ k ∈ r.map (·.1), okS k = true := fun k hk => nok k (pm.mem_iff.mp hk)
  have ek : (encR r).all (fun kv => okKk kv.1) = true := by
    rw [encR_map, List.all_map, List.all_eq_true]
    exact fun kv hkv => kok kv.1 (List.mem_map_of_mem hkv)
  have e0 : (encR r).map (·.1) = r.map fun kv => D.str kv.1 := by rw [encR_map, List.map_map]; rfl
  have e1 : lcD [4] (gSet 4) bYes (fCall dIsi (aCons (vGet 4) (aCons (vC (.op (.ty "str"))) aNil))) ((encR r).map (·.1)) [.val (.tup (encs ps)), .val (.dic 0 (encR r)), .emp, .emp, .emp] = .ok (r.map fun _ => D.bl true, [.val (.tup (encs ps)), .val (.dic 0 (encR r)), .emp, .emp, .emp]) := by
    rw [e0]
    refine lcD_map (fun kv : List Nat × Rv => D.str kv.1) (fun _ => D.bl true) (by rfl) r fun x hx => ⟨_, [.val (.tup (encs ps)), .val (.dic 0 (encR r)), .emp, .emp, .val (.str x.1)], rfl, ?_, rfl⟩
    simp [fCall, aCons, aNil, vGet, vC, R.bind, lft, dIsi, tyD, isTy, wipeD, gSet]
  have b1 := bools_map (fun _ : List Nat × Rv => true) r
  have e2 : lcD [3] (gSet 3) (toB (fBin dNe (fBin dGetI (vGet 3) (vC (.int 0))) (vC (.str [116, 101, 120, 116])))) (vGet 3) (encs ps) [.val (.tup (encs ps)), .val (.dic 0 (encR r)), .emp, .emp, .emp] = .ok ((named ps).map enc, [.val (.tup (encs ps)), .val (.dic 0 (encR r)), .emp, .emp, .emp]) := by
    generalize D.dic 0 (encR r) = q
    rw [encs_map ps]
    refine lcD_filter enc (fun p => !isText p) enc (by rfl) ps fun p hp => ⟨[.val (.tup (ps.map enc)), .val q, .emp, .val (enc p), .emp], [.val (.tup (ps.map enc)), .val q, .emp, .val (enc p), .emp], rfl, ?_, fun _ => rfl, fun _ => ⟨[.val (.tup (ps.map enc)), .val q, .emp, .val (enc p), .emp], ?_, rfl⟩⟩
    · simp [toB, fBin, vGet, vC, R.bind, lft, enc_0, ne_str, kind_text]
    · simp [vGet]
  have e3 : ∀ x y : Sl, lcD [3] (gSet 3) bYes (fBin dGetI (vGet 3) (vC (.int 1))) ((named ps).map enc) [x, y, .val (.lst ((named ps).map enc)), .emp, .emp] = .ok ((named ps).map fun p => D.str (nm p), [x, y, .val (.lst ((named ps).map enc)), .emp, .emp]) := fun x y => by
    generalize hq : D.lst ((named ps).map enc) = q
    refine lcD_map enc (fun p => D.str (nm p)) (by rfl) (named ps) fun p hp => ⟨_, [x, y, .val q, .val (enc p), .emp], rfl, ?_, rfl⟩
    simp [fBin, vGet, vC, R.bind, lft, enc_1, wipeD, gSet]
  have e4 : lcD [3] (gSet 3) bYes (fCallF (c0 fuel) (aaVal (vGet 3) (aaVal (fBin dGetI (vGet 1) (fBin dGetI (vGet 3) (vC (.int 1)))) aaNil))) ((named ps).map enc) [.val (.tup (encs ps)), .val (.dic 0 (encR r)), .val (.lst ((named ps).map enc)), .emp, .emp] = .ok ((named ps).map fun _ => D.bl true, [.val (.tup (encs ps)), .val (.dic 0 (encR r)), .val (.lst ((named ps).map enc)), .emp, .emp]) := by
    generalize hq : D.lst ((named ps).map enc) = q
    refine lcD_map enc (fun _ => D.bl true) (by rfl) (named ps) fun p hp => ⟨_, [.val (.tup (encs ps)), .val (.dic 0 (encR r)), .val q, .val (enc p), .emp], rfl, ?_, rfl⟩
    obtain ⟨hp, ht⟩ := List.mem_filter.mp hp
    obtain ⟨v, gv, fv⟩ := get_fit fa hp (by simpa using ht)
    have e := h0 p hp (by simpa using ht) v fv
    simp [fCallF, aaVal, aaNil, fBin, vGet, vC, R.bind, lft, wipeD, gSet, enc_1, gv, asOf, idxOf, e, putCs]
  have b4 := bools_map (fun _ : Pt => true) (named ps)
  have nl := names_len (ps := ps)
  have rl : (r.map (·.1)).length < 64 := by rw [pm.length_eq]; omega
  have sk : dSorted [.dic 0 (encR r)] = some (.lst ((sortN (names ps)).map .str)) := by
    unfold dSorted
    simp only [strKeys_enc]
    rw [if_pos ⟨rl, List.all_eq_true.mpr kok⟩, sortN_perm_eq pm]
  have sn : dSorted [.lst ((named ps).map fun p => D.str (nm p))] = some (.lst ((sortN (names ps)).map .str)) := by
    have e : ((named ps).map fun p => D.str (nm p)) = (names ps).map .str := by unfold names; rw [List.map_map]; rfl
    unfold dSorted
    rw [e]
    simp only [strsD_map]
    rw [if_pos (by omega)]
  simp [defD, ownIx, B_is_filling, sSeq, sIf, bOr, bNot, toB, fCall, aCons, aNil, vGet, vC, R.bind, lft, dIsi, tyD, isTy, ofO, lockE, oLc, fKeys, ek]
  simp [e1, quiet, dOf, lft, dAll, b1, R.bind, toOut, sNx, sSetL, oLc, iSeq, vGet]
  simp [e2, dOf, sIf, toB, fBin, fCall, aCons, aNil, vGet, R.bind, sk, lft, ofO, oLc, iSeq]
  simp [e3, dOf, lft, R.bind, sn, ne_same, sRet, toOut, fCall, aCons, aNil, ofO, oLc, iSeq, vGet]
  simp [e4, dOf, lft, dAll, b4, R.bind, DL.finish, outsOf]
end
theorem good_inn {d : Nat} {p : Pt} (h : goodP d p = true) (ht : isText p = false) (hf : isField p = false) : goodPs (d - 1) (inn p) = true := by
  cases p with
  | text s => simp [isText] at ht
  | field n => simp [isField] at hf
  | opt n ps => simp only [goodP, Bool.and_eq_true] at h; exact h.2.2
  | rep n s ps => simp only [goodP, Bool.and_eq_true] at h; exact h.2.2.2.1
theorem filling_spec (fuel : Nat) : ∀ r : Nat, (∀ d ps rr, goodPs d ps = true → FitR ps rr → 2 * hgs ps + 1 ≤ r → G_is_value r 1 fuel [.val (.tup (encs ps)), .val (.dic 0 (encR rr))] = .ret (.bl true) []) ∧
    (∀ d p v, goodP d p = true → isText p = false → FitV p v → 2 * hgP p + 2 ≤ r → G_is_value r 0 fuel [.val (enc p), .val (encV v)] = .ret (.bl true) [])
  | 0 => ⟨fun d ps rr _ _ h => by omega, fun d p v _ _ _ h => by omega⟩
  | r + 1 => by
    obtain ⟨i1, i0⟩ := filling_spec fuel r
    refine ⟨fun d ps rr hg hf h => is_filling_step (d := d) ps hg rr hf fun p hp ht v hv => i0 d p v (List.all_eq_true.mp (good_parts hg).2.2.1 p hp) ht hv (by have := hgs_mem hp; omega), fun d p v hg ht hv h => is_value_step p v ht hv fun hf r2 hR => i1 (d - 1) (inn p) r2 (good_inn hg ht hf) hR (by rw [← hgs_inn]; omega)⟩
theorem tmpl_good {ps : List Pt} (h : tmplB ps = true) : goodPs 3 ps = true := by simp only [tmplB, Bool.and_eq_true] at h; exact h.1
theorem is_record_spec (fuel : Nat) (ps : List Pt) (rr : List (List Nat × Rv)) (h : tmplB ps = true) (hf : FitR ps rr) : F_is_record fuel [.val (.tup (encs ps)), .val (.dic 0 (encR rr))] = .ret (.bl true) [] := by
  have hg := tmpl_good h
  have e := (filling_spec fuel 10).1 3 ps rr hg hf (by have := (good_hgs 3).1 ps hg; omega)
  simp [F_is_record, defD, ownIx, B_is_record, sSeq, sExpr, fCallF, aaVal, aaNil, vGet, R.bind, asOf, idxOf, need_template_spec, h, putCs, toOut, sRet, e, DL.finish, outsOf, List.replicate]
/-! ### fill -/
mutual
def fillP : Pt → List (List Nat × Rv) → List Nat
  | .text s, _ => s
  | .field n, r => match r.lookup n with
    | some (.word w) => w
    | _ => []
  | .opt n ps, r => match r.lookup n with
    | some (.obj q) => fillPs ps q
    | _ => []
  | .rep n s ps, r => match r.lookup n with
    | some (.recs rs) => joinD s (rs.map fun x => match x with
      | .obj q => fillPs ps q
      | _ => [])
    | _ => []
def fillPs : List Pt → List (List Nat × Rv) → List Nat
  | [], _ => []
  | p :: ps, r => fillP p r ++ fillPs ps r
end
/-- a bound for what is filled -/
def bnd : Nat → Nat
  | 0 => 48
  | d + 1 => 6 * (4 * bnd d + 12)
theorem bnd_le : ∀ d, 48 ≤ bnd d
  | 0 => Nat.le_refl _
  | d + 1 => by have := bnd_le d; unfold bnd; omega
theorem over_len {s g : List Nat} {a : Int} {b : Nat} (h : overB s g a b = true) : s.length ≤ b := by
  simp only [overB, Bool.and_eq_true, decide_eq_true_eq] at h
  omega
theorem join_le (s : List Nat) (m : Nat) : ∀ l : List (List Nat), (∀ x ∈ l, x.length ≤ m) → (joinD s l).length ≤ l.length * m + l.length * s.length
  | l, h => by
    refine Nat.le_trans (joinD_len s l) ?_
    have key : ∀ l : List (List Nat), (∀ x ∈ l, x.length ≤ m) → (l.map (·.length)).sum ≤ l.length * m := fun l => by
      induction l with
      | nil => intro _; simp
      | cons x l ih =>
        intro h
        have h1 := h x List.mem_cons_self
        have h2 := ih fun y hy => h y (List.mem_cons_of_mem _ hy)
        simp only [List.map_cons, List.sum_cons, List.length_cons, Nat.add_mul, Nat.one_mul]
        omega
    have := key l h
    omega
theorem fill_len : ∀ d : Nat, (∀ ps rr, goodPs d ps = true → FitR ps rr → (fillPs ps rr).length ≤ bnd d) ∧ (∀ p rr, goodP d p = true → (isText p = false → ∃ v, rr.lookup (nm p) = some v ∧ FitV p v) → 6 * (fillP p rr).length ≤ bnd d) := by
  have lift : ∀ d, (∀ p rr, goodP d p = true → (isText p = false → ∃ v, rr.lookup (nm p) = some v ∧ FitV p v) → 6 * (fillP p rr).length ≤ bnd d) → ∀ ps rr, goodPs d ps = true → FitR ps rr → (fillPs ps rr).length ≤ bnd d := fun d hd ps rr hg hf => by
    obtain ⟨g1, g2, g3, _⟩ := good_parts hg
    have fa := hf.2
    have key : ∀ l : List Pt, (∀ p ∈ l, p ∈ ps) → 6 * (fillPs l rr).length ≤ l.length * bnd d := fun l => by
      induction l with
      | nil => intro _; simp [fillPs]
      | cons p l ih =>
        intro hl
        have h1 := hd p rr (List.all_eq_true.mp g3 p (hl p List.mem_cons_self)) fun ht => fa.mem p (hl p List.mem_cons_self) ht
        have h2 := ih fun q hq => hl q (List.mem_cons_of_mem _ hq)
        rw [fillPs, List.length_append, List.length_cons, Nat.add_mul, Nat.one_mul]
        omega
    have h6 := key ps fun p hp => hp
    have : ps.length * bnd d ≤ 6 * bnd d := Nat.mul_le_mul_right _ g2
    omega
  intro d
  induction d with
  | zero =>
    have b0 : bnd 0 = 48 := rfl
    have key : ∀ p rr, goodP 0 p = true → (isText p = false → ∃ v, rr.lookup (nm p) = some v ∧ FitV p v) → 6 * (fillP p rr).length ≤ bnd 0 := fun p rr hg hv => by
      cases p with
      | text s =>
        have := over_len (b := 6) (by simpa [goodP] using hg)
        simp only [fillP]; omega
      | field n =>
        obtain ⟨v, e, f⟩ := hv rfl
        rw [FitV] at f
        obtain ⟨w, rfl, hw⟩ := f
        have := over_len (b := 8) hw
        simp only [nm] at e
        simp only [fillP, e]; omega
      | opt n ps => simp [goodP] at hg
      | rep n s ps => simp [goodP] at hg
    exact ⟨lift 0 key, key⟩
  | succ d ih =>
    have b1 : bnd (d + 1) = 6 * (4 * bnd d + 12) := rfl
    have key : ∀ p rr, goodP (d + 1) p = true → (isText p = false → ∃ v, rr.lookup (nm p) = some v ∧ FitV p v) → 6 * (fillP p rr).length ≤ bnd (d + 1) := fun p rr hg hv => by
      have := bnd_le d
      cases p with
      | text s =>
        have := over_len (b := 6) (by simpa [goodP] using hg)
        simp only [fillP]; omega
      | field n =>
        obtain ⟨v, e, f⟩ := hv rfl
        rw [FitV] at f
        obtain ⟨w, rfl, hw⟩ := f
        have := over_len (b := 8) hw
        simp only [nm] at e
        simp only [fillP, e]; omega
      | opt n ps =>
        obtain ⟨v, e, f⟩ := hv rfl
        simp only [nm] at e
        have gi := good_inn hg rfl rfl
        rw [FitV] at f
        rcases f with rfl | ⟨q, rfl, hq⟩
        · simp [fillP, e]
        · have := ih.1 ps q gi hq
          simp only [fillP, e]; omega
      | rep n s ps =>
        obtain ⟨v, e, f⟩ := hv rfl
        simp only [nm] at e
        have gi := good_inn hg rfl rfl
        have hs := over_len (b := 3) (by simp only [goodP, Bool.and_eq_true] at hg; exact hg.2.2.1)
        rw [FitV] at f
        obtain ⟨rs, rfl, hl, hr⟩ := f
        have hj := join_le s (bnd d) (rs.map fun x => match x with | .obj q => fillPs ps q | _ => []) fun x hx => by
          obtain ⟨y, hy, rfl⟩ := List.mem_map.mp hx
          obtain ⟨q, rfl, hq⟩ := hr y hy
          exact ih.1 ps q gi hq
        rw [List.length_map] at hj
        have m1 : rs.length * bnd d ≤ 4 * bnd d := Nat.mul_le_mul_right _ hl
        have m2 : rs.length * s.length ≤ 4 * 3 := Nat.mul_le_mul hl hs
        simp only [fillP, e]; omega
    exact ⟨lift (d + 1) key, key⟩
def pieceP (p : Pt) (r : List (List Nat × Rv)) : List (List Nat) := match p with
  | .opt n ps => match r.lookup n with
    | some (.obj q) => [fillPs ps q]
    | _ => []
  | p => [fillP p r]
theorem piece_flat (p : Pt) (r : List (List Nat × Rv)) : (pieceP p r).flatten = fillP p r := by
  cases p with
  | opt n ps =>
    cases h : r.lookup n with
    | none => simp [pieceP, fillP, h]
    | some v => cases v <;> simp [pieceP, fillP, h]
  | text s => simp [pieceP]
  | field n => simp [pieceP]
  | rep n s ps => simp [pieceP]
theorem joinD_nil : ∀ l : List (List Nat), joinD [] l = l.flatten
  | [] => rfl
  | [x] => by simp [joinD]
  | x :: y :: l => by
    have := joinD_nil (y :: l)
    simp [joinD, this]
theorem sum_le (m : Nat) : ∀ l : List (List Nat), (∀ x ∈ l, x.length ≤ m) → (l.map (·.length)).sum ≤ l.length * m
  | [], _ => by simp
  | x :: l, h => by
    have h1 := h x List.mem_cons_self
    have h2 := sum_le m l fun y hy => h y (List.mem_cons_of_mem _ hy)
    simp only [List.map_cons, List.sum_cons, List.length_cons, Nat.add_mul, Nat.one_mul]
    omega
theorem pieces_flat (r : List (List Nat × Rv)) : ∀ ps : List Pt, (ps.flatMap fun p => pieceP p r).flatten = fillPs ps r
  | [] => by simp [fillPs]
  | p :: ps => by rw [List.flatMap_cons, List.flatten_append, piece_flat, pieces_flat r ps, fillPs]
theorem bnd3 {d : Nat} (h : d ≤ 3) : bnd d ≤ 706824 := by
  have h3 : d = 0 ∨ d = 1 ∨ d = 2 ∨ d = 3 := by omega
  rcases h3 with h3 | h3 | h3 | h3 <;> rw [h3] <;> decide
/-! ### size -/
mutual
def szP : Pt → List (List Nat × Rv) → Nat
  | .text _, _ => 0
  | .field n, r => match r.lookup n with
    | some (.word w) => w.length
    | _ => 0
  | .opt n ps, r => match r.lookup n with
    | some (.obj q) => 1 + szPs ps q
    | _ => 0
  | .rep n _ ps, r => match r.lookup n with
    | some (.recs rs) => (rs.map fun x => match x with
      | .obj q => 1 + szPs ps q
      | _ => 0).sum
    | _ => 0
def szPs : List Pt → List (List Nat × Rv) → Nat
  | [], _ => 0
  | p :: ps, r => szP p r + szPs ps r
end
theorem cast_sum : ∀ l : List Nat, (l.map fun (n : Nat) => (n : Int)).sum = ((l.sum : Nat) : Int)
  | [] => rfl
  | x :: l => by simp [cast_sum l]
theorem iadd (a b : Int) : dIadd (.int a) (.int b) = some (.int (a + b)) := rfl
theorem add_int (a b : Int) : dAdd (.int a) (.int b) = some (.int (a + b)) := rfl
/-! ### the law's own fill -/
/-- what stands behind the k-th -/
def tailJ (s : List Nat) : Nat → List (List Nat) → List Nat
  | _, [] => []
  | k, x :: l => ((if 0 < k then s else []) ++ x) ++ tailJ s (k + 1) l
theorem tailJ_succ (s : List Nat) : ∀ (l : List (List Nat)) (k : Nat), tailJ s (k + 1) l = tailJ s 1 l
  | [], _ => rfl
  | x :: l, k => by
    unfold tailJ
    rw [if_pos (Nat.succ_pos k), if_pos (by decide), tailJ_succ s l (k + 1), tailJ_succ s l 1]
theorem tailJ_join (s : List Nat) : ∀ l : List (List Nat), tailJ s 0 l = joinD s l
  | [] => rfl
  | [x] => by simp [tailJ, joinD]
  | x :: y :: l => by
    have ih := tailJ_join s (y :: l)
    rw [joinD, ← ih]
    show ((if 0 < 0 then s else []) ++ x) ++ tailJ s 1 (y :: l) = x ++ (s ++ tailJ s 0 (y :: l))
    have e : tailJ s 1 (y :: l) = s ++ tailJ s 0 (y :: l) := by
      show ((if 0 < 1 then s else []) ++ y) ++ tailJ s 2 l = s ++ (((if 0 < 0 then s else []) ++ y) ++ tailJ s 1 l)
      rw [tailJ_succ s l 1]
      simp
    rw [e]
    simp
theorem gSet_app (i : Nat) (d : D) (ds : DS) : gSet i d ds = some (ds.set i (.val d)) := rfl
theorem add_str (a b : List Nat) (h : a.length + b.length ≤ Ln) : dAdd (.str a) (.str b) = some (.str (a ++ b)) := by
  unfold dAdd
  dsimp only
  rw [if_pos h]
section
variable {c0 : Nat → List Sl → Res} {fuel : Nat}
theorem lf_rep {s : List Nat} {n : List Nat} {ps : List Pt} (x0 x1 x4 : Sl) (g : Rv → List Nat) : ∀ (rs : List Rv), (∀ x ∈ rs, c0 fuel [.val (.tup (encs ps)), .val (encV x)] = .ret (.str (g x)) []) → ∀ (k : Nat) (acc : List Nat) (x5 x6 : Sl), acc.length + (tailJ s k (rs.map g)).length ≤ Ln →
    ∃ y5 y6, forD (gTupD 2 (gConsD (gSet 5) (gConsD (gSet 6) gNilD))) (B_law_fill_f0 c0 fuel) (enumD k (encVs rs)) [x0, x1, .val (.str acc), .val (enc (.rep n s ps)), x4, x5, x6] = .nx [x0, x1, .val (.str (acc ++ tailJ s k (rs.map g))), .val (enc (.rep n s ps)), x4, y5, y6]
  | [], _, k, acc, x5, x6, _ => ⟨x5, x6, by simp [encVs, enumD, forD, tailJ]⟩
  | x :: rs, h, k, acc, x5, x6, hl => by
    have hx := h x List.mem_cons_self
    rw [List.map_cons, tailJ, List.length_append, List.length_append] at hl
    obtain ⟨y5, y6, ih⟩ := lf_rep (s := s) (n := n) (ps := ps) x0 x1 x4 g rs (fun y hy => h y (List.mem_cons_of_mem _ hy)) (k + 1) (acc ++ ((if 0 < k then s else []) ++ g x)) (.val (.int k)) (.val (encV x)) (by rw [List.length_append, List.length_append]; omega)
    refine ⟨y5, y6, ?_⟩
    have g3 : dGetI (enc (.rep n s ps)) (.int 3) = some (.tup (encs ps)) := rfl
    have g2 : dGetI (enc (.rep n s ps)) (.int 2) = some (.str s) := rfl
    have b : B_law_fill_f0 c0 fuel [x0, x1, .val (.str acc), .val (enc (.rep n s ps)), x4, .val (.int k), .val (encV x)] = .nx [x0, x1, .val (.str (acc ++ ((if 0 < k then s else []) ++ g x))), .val (enc (.rep n s ps)), x4, .val (.int k), .val (encV x)] := by
      by_cases hk : 0 < k
      · have hk' : decide ((0 : Int) < (k : Int)) = true := decide_eq_true (by omega)
        have hgt : dGt (.int k) (.int 0) = some (.bl true) := by show some (D.bl (decide ((0 : Int) < (k : Int)))) = _; rw [hk']
        rw [if_pos hk] at hl ⊢
        have a1 := add_str acc s (by omega)
        have a2 := add_str (acc ++ s) (g x) (by rw [List.length_append]; omega)
        simp [B_law_fill_f0, sAsg, fBin, fIf, toB, vGet, vC, R.bind, lft, hgt, g2, g3, a1, fCallF, aaVal, aaNil, asOf, idxOf, hx, putCs, a2, toOut, gSet]
      · have hk' : decide ((0 : Int) < (k : Int)) = false := decide_eq_false (by omega)
        have hgt : dGt (.int k) (.int 0) = some (.bl false) := by show some (D.bl (decide ((0 : Int) < (k : Int)))) = _; rw [hk']
        rw [if_neg hk] at hl ⊢
        have a1 := add_str acc [] (by simp; omega)
        have a2 := add_str acc (g x) (by simp at hl; omega)
        rw [List.append_nil] at a1
        simp [B_law_fill_f0, sAsg, fBin, fIf, toB, vGet, vC, R.bind, lft, hgt, g3, a1, fCallF, aaVal, aaNil, asOf, idxOf, hx, putCs, a2, toOut, gSet]
    rw [encVs, enumD, forD]
    simp only [gTupD, gConsD, gNilD, gSet, List.length_cons, List.length_nil, if_true, Option.bind_some, List.set_cons_succ, List.set_cons_zero, b, loopK, ih, List.map_cons, tailJ, List.append_assoc]
theorem get1_fit {rr : List (List Nat × Rv)} {n : List Nat} {v : Rv} (e : rr.lookup n = some v) : (dget (encR rr) (.str n)).getD .non = encV v := by rw [lookup_dget, e]; rfl
theorem lf_body {rr : List (List Nat × Rv)} {d : Nat} (p : Pt) (hg : goodP d p = true) (hv : isText p = false → ∃ v, rr.lookup (nm p) = some v ∧ FitV p v) (h0 : isText p = false → isField p = false → ∀ q, FitR (inn p) q → c0 fuel [.val (.tup (encs (inn p))), .val (.dic 0 (encR q))] = .ret (.str (fillPs (inn p) q)) [])
    (x0 : Sl) (acc : List Nat) (x4 x5 x6 : Sl) (hl : acc.length + (fillP p rr).length ≤ Ln) : ∃ y4 y5 y6, B_law_fill_f3 c0 fuel [x0, .val (.dic 0 (encR rr)), .val (.str acc), .val (enc p), x4, x5, x6] = .nx [x0, .val (.dic 0 (encR rr)), .val (.str (acc ++ fillP p rr)), .val (enc p), y4, y5, y6] := by
  cases p with
  | text s =>
    have g1 : dGetI (enc (.text s)) (.int 1) = some (.str s) := enc_1 _
    have g0 : dGetI (enc (.text s)) (.int 0) = some (.str kT) := enc_0 _
    simp only [fillP] at hl
    have a1 := add_str acc s hl
    refine ⟨.val ((dget (encR rr) (.str s)).getD .non), x5, x6, ?_⟩
    simp [B_law_fill_f3, sSeq, sAsg, fGet1, fBin, vGet, vC, R.bind, lft, g0, g1, fitK_str, toOut, gSet, sIf, toB, eq_str, kT, a1, fillP]
  | field n =>
    obtain ⟨v, e, f⟩ := hv rfl
    rw [FitV] at f
    obtain ⟨w, rfl, hw⟩ := f
    simp only [nm] at e
    have g1 : dGetI (enc (.field n)) (.int 1) = some (.str n) := enc_1 _
    have g0 : dGetI (enc (.field n)) (.int 0) = some (.str kF) := enc_0 _
    have gg := get1_fit e
    simp only [encV] at gg
    simp only [fillP, e] at hl
    have a1 := add_str acc w hl
    refine ⟨.val (.str w), x5, x6, ?_⟩
    simp [B_law_fill_f3, sSeq, sAsg, fGet1, fBin, vGet, vC, R.bind, lft, g0, g1, gg, fitK_str, toOut, gSet, sIf, toB, eq_str, kF, a1, fillP, e]
  | opt n ps =>
    obtain ⟨v, e, f⟩ := hv rfl
    simp only [nm] at e
    have g1 : dGetI (enc (.opt n ps)) (.int 1) = some (.str n) := enc_1 _
    have g0 : dGetI (enc (.opt n ps)) (.int 0) = some (.str kI) := enc_0 _
    have g2 : dGetI (enc (.opt n ps)) (.int 2) = some (.tup (encs ps)) := rfl
    have gg := get1_fit e
    rw [FitV] at f
    rcases f with rfl | ⟨q, rfl, hq⟩
    · simp only [encV] at gg
      refine ⟨.val .non, x5, x6, ?_⟩
      simp [B_law_fill_f3, B_law_fill_e2, B_law_fill_e1, sSeq, sAsg, fGet1, fBin, vGet, vC, R.bind, lft, g0, g1, gg, fitK_str, toOut, gSet, sIf, toB, bAnd, eq_str, kI, dIsNot, isNonD, sNx, fillP, e]
    · have ec := h0 rfl rfl q hq
      simp only [inn] at ec
      simp only [encV] at gg
      simp only [fillP, e] at hl
      have a1 := add_str acc _ hl
      refine ⟨.val (.dic 0 (encR q)), x5, x6, ?_⟩
      simp [B_law_fill_f3, B_law_fill_e2, sSeq, sAsg, fGet1, fBin, vGet, vC, R.bind, lft, g0, g1, g2, gg, fitK_str, toOut, gSet, sIf, toB, bAnd, eq_str, kI, dIsNot, isNonD, fCallF, aaVal, aaNil, asOf, idxOf, ec, putCs, a1, fillP, e]
  | rep n s ps =>
    obtain ⟨v, e, f⟩ := hv rfl
    simp only [nm] at e
    have g1 : dGetI (enc (.rep n s ps)) (.int 1) = some (.str n) := enc_1 _
    have g0 : dGetI (enc (.rep n s ps)) (.int 0) = some (.str kE) := enc_0 _
    have gg := get1_fit e
    rw [FitV] at f
    obtain ⟨rs, rfl, hl4, hr⟩ := f
    simp only [encV] at gg
    have hc : ∀ x ∈ rs, c0 fuel [.val (.tup (encs ps)), .val (encV x)] = .ret (.str (match x with | .obj q => fillPs ps q | _ => [])) [] := fun x hx => by
      obtain ⟨q, rfl, hq⟩ := hr x hx
      have ec := h0 rfl rfl q hq
      simp only [inn] at ec
      exact ec
    have hl2 : acc.length + (tailJ s 0 (rs.map fun x => match x with | .obj q => fillPs ps q | _ => [])).length ≤ Ln := by
      rw [tailJ_join]
      simp only [fillP, e] at hl
      exact hl
    obtain ⟨y5, y6, el⟩ := lf_rep (c0 := c0) (fuel := fuel) (s := s) (n := n) (ps := ps) x0 (.val (.dic 0 (encR rr))) (.val (.lst (encVs rs))) _ rs hc 0 acc x5 x6 hl2
    rw [tailJ_join] at el
    refine ⟨.val (.lst (encVs rs)), y5, y6, ?_⟩
    simp [B_law_fill_f3, B_law_fill_e2, B_law_fill_e1, sSeq, sAsg, fGet1, fBin, vGet, vC, R.bind, lft, g0, g1, gg, fitK_str, toOut, gSet_app, sIf, toB, bAnd, eq_str, kE, sFor, iEnumD, aCons, aNil]
    simp only [el, fillP, e]
    try rfl
theorem lf_loop {rr : List (List Nat × Rv)} {d : Nat} (x0 : Sl) : ∀ (ps : List Pt), (∀ p ∈ ps, isText p = false → isField p = false → ∀ q, FitR (inn p) q → c0 fuel [.val (.tup (encs (inn p))), .val (.dic 0 (encR q))] = .ret (.str (fillPs (inn p) q)) []) → ps.all (goodP d) = true → FitAll ps rr → ∀ (acc : List Nat) (x x4 x5 x6 : Sl), acc.length + (fillPs ps rr).length ≤ Ln →
    ∃ y y4 y5 y6, forD (gSet 3) (B_law_fill_f3 c0 fuel) (encs ps) [x0, .val (.dic 0 (encR rr)), .val (.str acc), x, x4, x5, x6] = .nx [x0, .val (.dic 0 (encR rr)), .val (.str (acc ++ fillPs ps rr)), y, y4, y5, y6]
  | [], _, _, _, acc, x, x4, x5, x6, _ => ⟨x, x4, x5, x6, by simp [encs, forD, fillPs]⟩
  | p :: ps, h0, hg, hf, acc, x, x4, x5, x6, hl => by
    rw [List.all_cons, Bool.and_eq_true] at hg
    rw [FitAll] at hf
    rw [fillPs, List.length_append] at hl
    obtain ⟨z4, z5, z6, hb⟩ := lf_body (c0 := c0) (fuel := fuel) p hg.1 hf.1 (h0 p List.mem_cons_self) x0 acc x4 x5 x6 (by omega)
    obtain ⟨y, y4, y5, y6, ih⟩ := lf_loop x0 ps (fun q hq => h0 q (List.mem_cons_of_mem _ hq)) hg.2 hf.2 (acc ++ fillP p rr) (.val (enc p)) z4 z5 z6 (by rw [List.length_append]; omega)
    refine ⟨y, y4, y5, y6, ?_⟩
    rw [encs, forD]
    simp only [gSet_app, List.set_cons_succ, List.set_cons_zero, hb, loopK, ih, fillPs, List.append_assoc]
end
theorem law_fill_spec (fuel : Nat) : ∀ (r d : Nat) (ps : List Pt) (rr : List (List Nat × Rv)), d ≤ 3 → goodPs d ps = true → FitR ps rr → hgs ps + 1 ≤ r → F_law_fill r fuel [.val (.tup (encs ps)), .val (.dic 0 (encR rr))] = .ret (.str (fillPs ps rr)) []
  | 0, _, _, _, _, _, _, h => by omega
  | r + 1, d, ps, rr, hd, hg, hf, h => by
    show defD [] 7 (B_law_fill (F_law_fill r)) fuel [.val (.tup (encs ps)), .val (.dic 0 (encR rr))] = _
    obtain ⟨g1, g2, g3, g4⟩ := good_parts hg
    have hL := (fill_len d).1 ps rr hg hf
    have hb := bnd3 hd
    obtain ⟨y, y4, y5, y6, el⟩ := lf_loop (c0 := F_law_fill r) (fuel := fuel) (rr := rr) (d := d) (.val (.tup (encs ps))) ps (fun p hp ht hf2 q hq =>
      law_fill_spec fuel r (d - 1) (inn p) q (by omega) (good_inn (List.all_eq_true.mp g3 p hp) ht hf2) hq (by have := hgs_mem hp; rw [hgs_inn] at this; omega)) g3 hf.2 [] .emp .emp .emp .emp (by unfold Ln; simp; omega)
    simp [defD, ownIx, B_law_fill, sSeq, sAsg, vC, gSet_app, toOut, sFor, iSeq, vGet, R.bind, List.replicate]
    simp [el, sRet, vGet, toOut, DL.finish, outsOf]
/-! ### records as the law makes them: in the template's order -/
theorem uqN_le : ∀ (l acc : List (List Nat)), (l.foldl uqS acc).length ≤ acc.length + l.length
  | [], acc => by simp
  | x :: l, acc => by
    have := uqN_le l (uqS acc x)
    have h2 : (uqS acc x).length ≤ acc.length + 1 := by unfold uqS; split <;> simp
    simp only [List.foldl_cons, List.length_cons]; omega
theorem uqN_nodup : ∀ (l acc : List (List Nat)), acc.Nodup → (l.foldl uqS acc).length = acc.length + l.length → (acc ++ l).Nodup
  | [], acc, h, _ => by simpa using h
  | x :: l, acc, h, e => by
    rw [List.foldl_cons] at e
    by_cases hx : acc.contains x = true
    · have e2 : uqS acc x = acc := by unfold uqS; rw [if_pos hx]
      rw [e2] at e
      have := uqN_le l acc
      simp only [List.length_cons] at e
      omega
    · have e2 : uqS acc x = acc ++ [x] := by unfold uqS; rw [if_neg hx]
      rw [e2] at e
      have hn : (acc ++ [x]).Nodup := by
        rw [List.nodup_append]
        refine ⟨h, by simp, fun a ha b hb => ?_⟩
        rw [List.mem_singleton] at hb
        subst hb
        intro z
        subst z
        exact hx (by simpa using ha)
      have := uqN_nodup l (acc ++ [x]) hn (by rw [e, List.length_append]; simp; omega)
      simpa using this
theorem nodup_uqN : ∀ (l acc : List (List Nat)), (acc ++ l).Nodup → (l.foldl uqS acc).length = acc.length + l.length
  | [], acc, _ => by simp
  | x :: l, acc, h => by
    have hx : x ∉ acc := by
      rw [List.nodup_append] at h
      exact fun z => h.2.2 x z x List.mem_cons_self rfl
    have e2 : uqS acc x = acc ++ [x] := by unfold uqS; rw [if_neg (by simpa using hx)]
    rw [List.foldl_cons, e2, nodup_uqN l (acc ++ [x]) (by simpa using h)]
    simp; omega
theorem distinct_nodup (l : List (List Nat)) : distinct l = true ↔ l.Nodup := by
  unfold distinct uqN
  rw [decide_eq_true_eq]
  constructor
  · intro h
    have := uqN_nodup l [] List.nodup_nil (by simpa using h.symm)
    simpa using this
  · intro h
    have := nodup_uqN l [] (by simpa using h)
    simpa using this.symm
mutual
def GenV : Pt → Rv → Prop
  | .text _, _ => False
  | .field _, v => ∃ s, v = .word s ∧ overB s LET 1 8 = true
  | .opt _ ps, v => v = .none ∨ ∃ r, v = .obj r ∧ GenR ps r
  | .rep _ _ ps, v => ∃ rs, v = .recs rs ∧ rs.length ≤ 4 ∧ ∀ x ∈ rs, ∃ r, x = .obj r ∧ GenR ps r
def GenR : List Pt → List (List Nat × Rv) → Prop
  | [], r => r = []
  | p :: ps, r => (isText p = true ∧ GenR ps r) ∨ (isText p = false ∧ ∃ v q, r = (nm p, v) :: q ∧ GenV p v ∧ GenR ps q)
end
theorem names_cons (p : Pt) (ps : List Pt) : names (p :: ps) = if isText p = true then names ps else nm p :: names ps := by
  unfold names named
  rw [List.filter_cons]
  cases isText p <;> simp
theorem gen_keys : ∀ (ps : List Pt) (r : List (List Nat × Rv)), GenR ps r → r.map (·.1) = names ps
  | [], r, h => by rw [GenR] at h; subst h; rfl
  | p :: ps, r, h => by
    rw [GenR] at h
    rw [names_cons]
    rcases h with ⟨ht, h⟩ | ⟨ht, v, q, rfl, _, h⟩
    · rw [if_pos ht]; exact gen_keys ps r h
    · rw [if_neg (by simp [ht]), List.map_cons, gen_keys ps q h]
theorem fit_cons {k : List Nat} {v : Rv} {q : List (List Nat × Rv)} : ∀ {ps : List Pt}, k ∉ names ps → FitAll ps q → FitAll ps ((k, v) :: q)
  | [], _, _ => by rw [FitAll]; trivial
  | p :: ps, hk, h => by
    rw [FitAll] at h ⊢
    rw [names_cons] at hk
    refine ⟨fun ht => ?_, fit_cons (fun z => hk ?_) h.2⟩
    · rw [if_neg (by simp [ht])] at hk
      obtain ⟨w, e, f⟩ := h.1 ht
      refine ⟨w, ?_, f⟩
      rw [List.lookup_cons]
      have : (nm p == k) = false := by simpa using fun z : nm p = k => hk (by rw [← z]; exact List.mem_cons_self)
      rw [this]; exact e
    · split
      · exact z
      · exact List.mem_cons_of_mem _ z
theorem gen_fit : ∀ n : Nat, (∀ d ps r, hgs ps ≤ n → goodPs d ps = true → GenR ps r → FitR ps r) := by
  intro n
  induction n with
  | zero =>
    intro d ps r h hg _
    have := (good_parts hg).1
    cases ps with
    | nil => simp at this
    | cons p ps => unfold hgs at h; omega
  | succ n ih =>
    intro d ps r hn hg hr
    obtain ⟨g1, g2, g3, g4⟩ := good_parts hg
    have nd := (distinct_nodup _).mp g4
    refine ⟨by rw [gen_keys ps r hr], ?_⟩
    have val : ∀ p ∈ ps, ∀ v, isText p = false → GenV p v → FitV p v := fun p hp v ht hv => by
      have hh := hgs_mem hp
      have gp := List.all_eq_true.mp g3 p hp
      cases p with
      | text s => simp [isText] at ht
      | field m => rw [GenV] at hv; rw [FitV]; exact hv
      | opt m qs =>
        rw [GenV] at hv
        rw [FitV]
        refine hv.imp id fun ⟨q, e, h⟩ => ⟨q, e, ih (d - 1) qs q (by simp only [hgP] at hh; omega) (good_inn gp rfl rfl) h⟩
      | rep m s qs =>
        rw [GenV] at hv
        rw [FitV]
        obtain ⟨rs, e, hl, h⟩ := hv
        refine ⟨rs, e, hl, fun x hx => ?_⟩
        obtain ⟨q, e2, h2⟩ := h x hx
        exact ⟨q, e2, ih (d - 1) qs q (by simp only [hgP] at hh; omega) (good_inn gp rfl rfl) h2⟩
    clear hg g1 g2 g3 g4 hn
    have go : ∀ (l : List Pt) (r : List (List Nat × Rv)), (∀ p ∈ l, p ∈ ps) → (names l).Nodup → GenR l r → FitAll l r := fun l => by
      induction l with
      | nil => intro r _ _ _; rw [FitAll]; trivial
      | cons p l ihl =>
        intro r hl nd h
        rw [GenR] at h
        rw [names_cons] at nd
        rw [FitAll]
        rcases h with ⟨ht, h⟩ | ⟨ht, v, q, rfl, hv, h⟩
        · rw [if_pos ht] at nd
          exact ⟨(fun z => by rw [ht] at z; cases z), ihl r (fun x hx => hl x (List.mem_cons_of_mem _ hx)) nd h⟩
        · rw [if_neg (by simp [ht])] at nd
          obtain ⟨n1, n2⟩ := List.nodup_cons.mp nd
          refine ⟨fun _ => ⟨v, by rw [List.lookup_cons]; simp, val p (hl p List.mem_cons_self) v ht hv⟩, fit_cons n1 (ihl q (fun x hx => hl x (List.mem_cons_of_mem _ hx)) n2 h)⟩
    exact go ps r (fun _ h => h) nd hr
/-! the record's size by itself -/
mutual
def rvV : Rv → Nat
  | .word s => s.length
  | .none => 0
  | .obj r => 1 + rvR r
  | .recs rs => rvS rs
def rvR : List (List Nat × Rv) → Nat
  | [] => 0
  | (_, v) :: r => rvV v + rvR r
def rvS : List Rv → Nat
  | [] => 0
  | v :: r => rvV v + rvS r
end
theorem rvS_sum : ∀ l : List Rv, rvS l = (l.map rvV).sum
  | [] => by simp [rvS]
  | v :: l => by simp [rvS, rvS_sum l]
theorem sz_cons {k : List Nat} {v : Rv} {q : List (List Nat × Rv)} : ∀ {ps : List Pt}, k ∉ names ps → szPs ps ((k, v) :: q) = szPs ps q
  | [], _ => by simp [szPs]
  | p :: ps, hk => by
    rw [names_cons] at hk
    rw [szPs, szPs, sz_cons (ps := ps) fun z => hk (by split; exact z; exact List.mem_cons_of_mem _ z)]
    congr 1
    cases p with
    | text s => simp [szP]
    | field n =>
      have : (n == k) = false := by simpa using fun z : n = k => hk (by simp [isText, nm, z])
      simp only [szP, List.lookup_cons, this]
    | opt n qs =>
      have : (n == k) = false := by simpa using fun z : n = k => hk (by simp [isText, nm, z])
      simp only [szP, List.lookup_cons, this]
    | rep n s qs =>
      have : (n == k) = false := by simpa using fun z : n = k => hk (by simp [isText, nm, z])
      simp only [szP, List.lookup_cons, this]
theorem gen_size : ∀ n : Nat, ∀ d ps r, hgs ps ≤ n → goodPs d ps = true → GenR ps r → szPs ps r = rvR r := by
  intro n
  induction n with
  | zero =>
    intro d ps r h hg _
    have := (good_parts hg).1
    cases ps with
    | nil => simp at this
    | cons p ps => unfold hgs at h; omega
  | succ n ih =>
    intro d ps r hn hg hr
    obtain ⟨g1, g2, g3, g4⟩ := good_parts hg
    have nd := (distinct_nodup _).mp g4
    have val : ∀ p ∈ ps, ∀ v q, isText p = false → GenV p v → szP p ((nm p, v) :: q) = rvV v := fun p hp v q ht hv => by
      have hh := hgs_mem hp
      have gp := List.all_eq_true.mp g3 p hp
      cases p with
      | text s => simp [isText] at ht
      | field m =>
        rw [GenV] at hv
        obtain ⟨s, rfl, _⟩ := hv
        simp [szP, nm, rvV]
      | opt m qs =>
        rw [GenV] at hv
        rcases hv with rfl | ⟨q2, rfl, h⟩
        · simp [szP, nm, rvV]
        · have := ih (d - 1) qs q2 (by simp only [hgP] at hh; omega) (good_inn gp rfl rfl) h
          simp [szP, nm, rvV, this]
      | rep m s qs =>
        rw [GenV] at hv
        obtain ⟨rs, rfl, hl, h⟩ := hv
        have : rs.map (fun x => match x with | .obj q => 1 + szPs qs q | _ => 0) = rs.map rvV := by
          refine List.map_congr_left fun x hx => ?_
          obtain ⟨q2, rfl, h2⟩ := h x hx
          have := ih (d - 1) qs q2 (by simp only [hgP] at hh; omega) (good_inn gp rfl rfl) h2
          simp [rvV, this]
        simp only [szP, nm, List.lookup_cons, beq_self_eq_true, rvV, rvS_sum]
        exact congrArg List.sum this
    have go : ∀ (l : List Pt) (r : List (List Nat × Rv)), (∀ p ∈ l, p ∈ ps) → (names l).Nodup → GenR l r → szPs l r = rvR r := fun l => by
      induction l with
      | nil => intro r _ _ h; rw [GenR] at h; subst h; simp [szPs, rvR]
      | cons p l ihl =>
        intro r hl nd h
        rw [GenR] at h
        rw [names_cons] at nd
        rw [szPs]
        rcases h with ⟨ht, h⟩ | ⟨ht, v, q, rfl, hv, h⟩
        · rw [if_pos ht] at nd
          have e0 : szP p r = 0 := by cases p <;> simp [isText] at ht; simp [szP]
          rw [e0, ihl r (fun x hx => hl x (List.mem_cons_of_mem _ hx)) nd h]; omega
        · rw [if_neg (by simp [ht])] at nd
          obtain ⟨n1, n2⟩ := List.nodup_cons.mp nd
          rw [val p (hl p List.mem_cons_self) v q ht hv, sz_cons n1, ihl q (fun x hx => hl x (List.mem_cons_of_mem _ hx)) n2 h, rvR]
    exact go ps r (fun _ h => h) nd hr
/-! ### the law's own size -/
theorem lookup_mem : ∀ {r : List (List Nat × Rv)} {k : List Nat} {v : Rv}, (r.map (·.1)).Nodup → (k, v) ∈ r → r.lookup k = some v
  | (a, w) :: r, k, v, nd, h => by
    rw [List.map_cons, List.nodup_cons] at nd
    rcases List.mem_cons.mp h with e | h
    · cases e; simp
    · have hk : k ∈ r.map (·.1) := List.mem_map_of_mem (f := Prod.fst) h
      have : (k == a) = false := by simpa using fun z : k = a => nd.1 (by rw [← z]; exact hk)
      rw [List.lookup_cons, this]
      exact lookup_mem nd.2 h
/-- what may stand in a record whose size is asked -/
def SzOk (c : List D → Nat → Prop) (v : Rv) : Prop := match v with
  | .word _ => True
  | .none => True
  | .obj q => c [.dic 0 (encR q)] (rvR q)
  | .recs rs => ∀ x ∈ rs, ∃ q, x = .obj q ∧ c [.dic 0 (encR q)] (rvR q)
section
variable {c0 : Nat → List Sl → Res} {fuel : Nat} {rr : List (List Nat × Rv)}
theorem ls_body (k : List Nat) (v : Rv) (hk : rr.lookup k = some v) (hv : SzOk (fun as n => c0 fuel (as.map .val) = .ret (.int n) []) v) (t : Nat) (x3 : Sl) :
    B_law_size_f2 c0 fuel [.val (.dic 0 (encR rr)), .val (.int t), .val (.str k), x3, .emp] = .nx [.val (.dic 0 (encR rr)), .val (.int ((t + rvV v : Nat) : Int)), .val (.str k), .val (encV v), .emp] := by
  have gv : dGetI (.dic 0 (encR rr)) (.str k) = some (encV v) := by
    show (if fitK 0 (.str k) = true then dget (encR rr) (.str k) else none) = _
    rw [if_pos (fitK_str _), lookup_dget, hk]; rfl
  cases v with
  | word s =>
    simp [B_law_size_f2, sSeq, sAsg, fBin, vGet, vC, R.bind, lft, gv, encV, toOut, gSet_app, sIf, toB, fCall, aCons, aNil, dIsi, tyD, isTy, dLen, add_int, rvV]
  | none =>
    simp [B_law_size_f2, B_law_size_e1, B_law_size_e0, sSeq, sAsg, fBin, vGet, vC, R.bind, lft, gv, encV, toOut, gSet_app, sIf, toB, fCall, aCons, aNil, dIsi, tyD, isTy, dIsNot, isNonD, sNx, rvV]
  | obj q =>
    have e : c0 fuel [.val (.dic 0 (encR q))] = .ret (.int (rvR q)) [] := hv
    simp [B_law_size_f2, B_law_size_e1, sSeq, sAsg, fBin, vGet, vC, R.bind, lft, gv, encV, toOut, gSet_app, sIf, toB, fCall, aCons, aNil, dIsi, tyD, isTy, fCallF, aaVal, aaNil, asOf, idxOf, e, putCs, add_int, rvV, Int.add_assoc]
  | recs rs =>
    have e1 : lcD [4] (gSet 4) bYes (fBin dAdd (vC (.int 1)) (fCallF (c0 fuel) (aaVal (vGet 4) aaNil))) (encVs rs) [.val (.dic 0 (encR rr)), .val (.int t), .val (.str k), .val (.lst (encVs rs)), .emp] = .ok (rs.map fun x => D.int ((rvV x : Nat) : Int), [.val (.dic 0 (encR rr)), .val (.int t), .val (.str k), .val (.lst (encVs rs)), .emp]) := by
      generalize hq : D.lst (encVs rs) = w
      rw [encVs_map rs]
      refine lcD_map encV (fun x => D.int ((rvV x : Nat) : Int)) (by rfl) rs fun x hx => ⟨_, [.val (.dic 0 (encR rr)), .val (.int t), .val (.str k), .val w, .val (encV x)], rfl, ?_, rfl⟩
      obtain ⟨q, rfl, e⟩ := hv x hx
      have e : c0 fuel [.val (.dic 0 (encR q))] = .ret (.int (rvR q)) [] := e
      simp [fCallF, aaVal, aaNil, fBin, vGet, vC, R.bind, lft, wipeD, gSet, encV, asOf, idxOf, e, putCs, add_int, rvV]
    have es := intsD_map (fun x : Rv => ((rvV x : Nat) : Int)) rs
    have cs := cast_sum (rs.map rvV)
    rw [List.map_map] at cs
    have ss : dSum [.lst (rs.map fun x => D.int ((rvV x : Nat) : Int))] = some (.int ((rvS rs : Nat) : Int)) := by
      unfold dSum
      simp only [es, Option.map_some]
      rw [rvS_sum]
      exact congrArg (fun z => some (D.int z)) cs
    simp [B_law_size_f2, B_law_size_e1, B_law_size_e0, sSeq, sAsg, fBin, vGet, vC, R.bind, lft, gv, encV, toOut, gSet_app, sIf, toB, fCall, aCons, aNil, dIsi, tyD, isTy, dIsNot, isNonD, ofO, oLc, iSeq]
    simp [e1, dOf, lft, R.bind, ss, toOut, add_int, gSet_app, rvV]
theorem ls_loop : ∀ (l : List (List Nat × Rv)), (∀ kv ∈ l, rr.lookup kv.1 = some kv.2 ∧ SzOk (fun as n => c0 fuel (as.map .val) = .ret (.int n) []) kv.2) → ∀ (t : Nat) (x2 x3 : Sl), ∃ y2 y3,
    forD (gSet 2) (B_law_size_f2 c0 fuel) (l.map fun kv => D.str kv.1) [.val (.dic 0 (encR rr)), .val (.int t), x2, x3, .emp] = .nx [.val (.dic 0 (encR rr)), .val (.int ((t + rvR l : Nat) : Int)), y2, y3, .emp]
  | [], _, t, x2, x3 => ⟨x2, x3, by simp [forD, rvR]⟩
  | (k, v) :: l, h, t, x2, x3 => by
    obtain ⟨h1, h2⟩ := h (k, v) List.mem_cons_self
    have hb := ls_body (c0 := c0) (fuel := fuel) k v h1 h2 t x3
    obtain ⟨y2, y3, ih⟩ := ls_loop l (fun kv hkv => h kv (List.mem_cons_of_mem _ hkv)) (t + rvV v) (.val (.str k)) (.val (encV v))
    refine ⟨y2, y3, ?_⟩
    rw [List.map_cons, forD]
    simp only [gSet_app, List.set_cons_succ, List.set_cons_zero, hb, loopK, ih, rvR, Nat.add_assoc]
end
theorem law_size_spec (fuel : Nat) : ∀ (r d : Nat) (ps : List Pt) (rr : List (List Nat × Rv)), goodPs d ps = true → GenR ps rr → hgs ps + 1 ≤ r → F_law_size r fuel [.val (.dic 0 (encR rr))] = .ret (.int (rvR rr)) []
  | 0, _, _, _, _, _, h => by omega
  | r + 1, d, ps, rr, hg, hr, h => by
    show defD [] 5 (B_law_size (F_law_size r)) fuel [.val (.dic 0 (encR rr))] = _
    obtain ⟨g1, g2, g3, g4⟩ := good_parts hg
    have nd := (distinct_nodup _).mp g4
    have ek : (encR rr).all (fun kv => okKk kv.1) = true := by
      rw [encR_map, List.all_map, List.all_eq_true]
      exact fun kv hkv => names_ok g3 kv.1 (by rw [← gen_keys ps rr hr]; exact List.mem_map_of_mem hkv)
    have e0 : (encR rr).map (·.1) = rr.map fun kv => D.str kv.1 := by rw [encR_map, List.map_map]; rfl
    have vals : ∀ (l : List Pt) (q : List (List Nat × Rv)), (∀ p ∈ l, p ∈ ps) → GenR l q → ∀ kv ∈ q, ∃ p ∈ ps, isText p = false ∧ GenV p kv.2 := fun l => by
      induction l with
      | nil => intro q _ h kv hkv; rw [GenR] at h; subst h; simp at hkv
      | cons p l ih =>
        intro q hl h kv hkv
        rw [GenR] at h
        rcases h with ⟨ht, h⟩ | ⟨ht, v, q2, rfl, hv, h⟩
        · exact ih q (fun x hx => hl x (List.mem_cons_of_mem _ hx)) h kv hkv
        · rcases List.mem_cons.mp hkv with rfl | hkv
          · exact ⟨p, hl p List.mem_cons_self, ht, hv⟩
          · exact ih q2 (fun x hx => hl x (List.mem_cons_of_mem _ hx)) h kv hkv
    obtain ⟨y2, y3, el⟩ := ls_loop (c0 := F_law_size r) (fuel := fuel) (rr := rr) rr (fun kv hkv => by
      refine ⟨lookup_mem (by rw [gen_keys ps rr hr]; exact nd) hkv, ?_⟩
      obtain ⟨p, hp, ht, hv⟩ := vals ps rr (fun _ h => h) hr kv hkv
      have hh := hgs_mem hp
      have gp := List.all_eq_true.mp g3 p hp
      obtain ⟨k, v⟩ := kv
      cases p with
      | text s => simp [isText] at ht
      | field m =>
        rw [GenV] at hv
        obtain ⟨s, e, _⟩ := hv
        have e : v = .word s := e
        subst e; trivial
      | opt m qs =>
        rw [GenV] at hv
        rcases hv with e | ⟨q2, e, h2⟩
        · have e : v = .none := e
          subst e; trivial
        · have e : v = .obj q2 := e
          subst e
          exact law_size_spec fuel r (d - 1) qs q2 (good_inn gp rfl rfl) h2 (by simp only [hgP] at hh; omega)
      | rep m s qs =>
        rw [GenV] at hv
        obtain ⟨rs, e, hl, h2⟩ := hv
        have e : v = .recs rs := e
        subst e
        intro x hx
        obtain ⟨q2, e2, h3⟩ := h2 x hx
        exact ⟨q2, e2, law_size_spec fuel r (d - 1) qs q2 (good_inn gp rfl rfl) h3 (by simp only [hgP] at hh; omega)⟩) 0 .emp .emp
    rw [Nat.zero_add] at el
    have el : forD (gSet 2) (B_law_size_f2 (F_law_size r) fuel) (rr.map fun kv => D.str kv.1) [.val (.dic 0 (encR rr)), .val (.int 0), .emp, .emp, .emp] = _ := el
    simp [defD, ownIx, B_law_size, sSeq, sAsg, vC, gSet_app, toOut, lockS, sFor, fKeys, ek, List.replicate]
    rw [e0, el]
    simp [quietO, sRet, vGet, toOut, DL.finish, outsOf]
/-! ### what _law_draw gives -/
theorem atD_nat {α : Type} (l : List α) (k : Nat) : atD l (k : Int) = l[k]? := by
  unfold atD
  rw [if_pos (by omega), Int.toNat_natCast]
theorem draw_spec (fuel : Nat) (ns : List Int) (at_ : Nat) (left many : Int) (hl : 0 ≤ left) (hl2 : left < 10 ^ 120) (hm : 0 < many) (hm2 : many < 1073741824) :
    ∃ (r : Int) (at' : Nat) (left' : Int), F_law_draw fuel [.val (.scr ns), .own (.l [.int at_, .int left]), .val (.int many)] = .ret (.int r) [.l [.int at', .int left']] ∧ 0 ≤ r ∧ r < many ∧ 0 ≤ left' ∧ left' < 10 ^ 120 := by
  have mod1 : ∀ x : Int, 0 ≤ x % many ∧ x % many < many := fun x => ⟨Int.emod_nonneg _ (by omega), Int.emod_lt_of_pos _ hm⟩
  by_cases h1 : 0 < left
  · refine ⟨left % many, at_, left / many, ?_, (mod1 _).1, (mod1 _).2, Int.ediv_nonneg hl (by omega), Int.lt_of_le_of_lt (Int.ediv_le_self _ hl) hl2⟩
    simp [F_law_draw, defD, ownIx, B_law_draw, sSeq, sIf, toB, fBin, fIxOwn, vC, vGet, toOut, dIx, atD, R.bind, lft, dGt, h1, sAsg, gSet, dMod, hm, sSetIx, ixD, dFdiv, hm2, sRet, DL.finish, outsOf, List.replicate]
  · have h0 : left = 0 := by omega
    subst h0
    by_cases h2 : ns = []
    · subst h2
      refine ⟨(at_ : Int) % many, at_ + 1, 0, ?_, (mod1 _).1, (mod1 _).2, Int.le_refl _, by decide⟩
      simp [F_law_draw, defD, ownIx, B_law_draw, sSeq, sIf, toB, fBin, fIxOwn, vC, vGet, toOut, dIx, atD, R.bind, lft, dGt, sAsg, gSet, dMod, hm, sNx, sAugIx, dIadd, dEq, plainD, eqB, eqS, mkLst, aNil, sRet, DL.finish, outsOf, List.replicate]
    · have hlen : 0 < ns.length := by cases ns with | nil => exact absurd rfl h2 | cons _ _ => simp
      have en : eqB (.scr ns) (.lst []) = false := by cases ns with | nil => exact absurd rfl h2 | cons _ _ => rfl
      have pn : plainD 60 (.scr ns) = true := rfl
      by_cases h3 : at_ < ns.length ∧ (10 : Int) ^ 18 ≤ ns[at_]?.getD 0
      · obtain ⟨h3, h4⟩ := h3
        rw [List.getElem?_eq_getElem h3, Option.getD_some] at h4
        refine ⟨ns[at_] % many, at_ + 1, ns[at_] / many % (10 ^ 60 * 10 ^ 60), ?_, (mod1 _).1, (mod1 _).2, Int.emod_nonneg _ (by decide), ?_⟩
        · have h3' : (at_ : Int) < (ns.length : Int) := by omega
          have gi : dGetI (.scr ns) (.int at_) = some (.int ns[at_]) := by simp [dGetI, dIx, atD_nat, List.getElem?_eq_getElem h3]
          have h4' : (1000000000000000000 : Int) ≤ ns[at_] := by simpa using h4
          have dm60 : dMul (.int (10 ^ 60)) (.int (10 ^ 60)) = some (.int (10 ^ 60 * 10 ^ 60)) := by
            unfold dMul
            dsimp only
            rw [if_pos (by decide +kernel)]
          simp only [Int.reducePow] at dm60
          simp [F_law_draw, defD, ownIx, B_law_draw, B_law_draw_i0, sSeq, sIf, toB, fBin, fIxOwn, vC, vGet, toOut, dIx, atD, R.bind, lft, dGt, sAsg, gSet, dMod, hm, sNx, sAugIx, dIadd, dEq, mkLst, aNil, sRet, DL.finish, outsOf, List.replicate, en, pn, plainD, bAnd, fCall, aCons, dLen, dLt, h3', gi, dPow, dGe, h4', sSetIx, ixD, dFdiv, hm2, dm60]
        · have := Int.emod_lt_of_pos (ns[at_] / many) (show (0 : Int) < 10 ^ 60 * 10 ^ 60 by decide)
          simpa using this
      · have hk : at_ % ns.length < ns.length := Nat.mod_lt _ hlen
        have gk : dGetI (.scr ns) (.int ((at_ : Int) % (ns.length : Int))) = some (.int ns[at_ % ns.length]) := by
          have a : atD ns ((at_ % ns.length : Nat) : Int) = some ns[at_ % ns.length] := by rw [atD_nat, List.getElem?_eq_getElem hk]
          rw [Int.natCast_emod] at a
          simp [dGetI, dIx, a]
        have hlenI : (0 : Int) < (ns.length : Int) := by omega
        have t1 : bAnd (toB (fBin dLt (vGet 3) (fCall dLen (aCons (vGet 0) aNil)))) (toB (fBin dGe (fBin dGetI (vGet 0) (vGet 3)) (fBin dPow (vC (.int 10)) (vC (.int 18)))))
            [.val (.scr ns), .own (.l [.int (at_ + 1), .int 0]), .val (.int many), .val (.int at_), .emp, .emp] = .ok (false, [.val (.scr ns), .own (.l [.int (at_ + 1), .int 0]), .val (.int many), .val (.int at_), .emp, .emp]) := by
          by_cases h4 : at_ < ns.length
          · have h5 : ¬ (10 : Int) ^ 18 ≤ ns[at_] := fun z => h3 ⟨h4, by rw [List.getElem?_eq_getElem h4, Option.getD_some]; exact z⟩
            have h4' : (at_ : Int) < (ns.length : Int) := by omega
            have gi : dGetI (.scr ns) (.int at_) = some (.int ns[at_]) := by simp [dGetI, dIx, atD_nat, List.getElem?_eq_getElem h4]
            have h5' : ¬ (1000000000000000000 : Int) ≤ ns[at_] := by simpa using h5
            simp [bAnd, toB, fBin, vGet, fCall, aCons, aNil, dLen, dLt, R.bind, lft, h4', gi, vC, dPow, dGe, h5']
          · have h4' : ¬ (at_ : Int) < (ns.length : Int) := by omega
            simp [bAnd, toB, fBin, vGet, fCall, aCons, aNil, dLen, dLt, R.bind, lft, h4']
        generalize hmx : (ns[at_ % ns.length] * 1103515245 + 7919 * (at_ : Int) + 12345) % 2147483647 = mx
        have m1 : 0 ≤ mx := by rw [← hmx]; exact Int.emod_nonneg _ (by decide)
        have m2 : mx < 2147483647 := by rw [← hmx]; exact Int.emod_lt_of_pos _ (by decide)
        have m3 : mx.natAbs < 2 ^ 64 := by omega
        have m3' : mx.natAbs < 18446744073709551616 := by omega
        have k1 : okMul ns[at_ % ns.length] 1103515245 = true ∨ okMul 1103515245 ns[at_ % ns.length] = true := .inr (by simp [okMul])
        have k2 : okMul 7919 (at_ : Int) = true := by simp [okMul]
        have dm : dMul (.int ns[at_ % ns.length]) (.int 1103515245) = some (.int (ns[at_ % ns.length] * 1103515245)) := by
          unfold dMul
          dsimp only
          rcases k1 with k | k
          · rw [if_pos k]
          · by_cases q : okMul ns[at_ % ns.length] 1103515245 = true
            · rw [if_pos q]
            · rw [if_neg q, if_pos k]
        refine ⟨mx ^ 5 % 2147483647 % 999983 % many, at_ + 1, 0, ?_, (mod1 _).1, (mod1 _).2, Int.le_refl _, by decide⟩
        have dm2 : dMul (.int 7919) (.int (at_ : Int)) = some (.int (7919 * at_)) := by unfold dMul; dsimp only; rw [if_pos k2]
        have dp : dPow (.int mx) (.int 5) = some (.int (mx ^ 5)) := by simp [dPow, m3']
        simp [F_law_draw, defD, ownIx, B_law_draw, sSeq, sIf, toB, fBin, fIxOwn, vC, vGet, toOut, dIx, atD, R.bind, lft, dGt, sAsg, gSet, dMod, hm, sNx, sAugIx, dIadd, dEq, mkLst, aNil, sRet, DL.finish, outsOf, List.replicate, en, pn, plainD, t1, fCall, aCons, dLen, gk, hlenI, hlen, dm, dm2, dAdd, hmx, dp]
/-! ### the town; draws and picks as calls -/
def Tw (s : Sl) : Prop := ∃ (a : Nat) (l : Int), s = .own (.l [.int a, .int l]) ∧ 0 ≤ l ∧ l < 10 ^ 120
theorem tw_0 : Tw (.own (.l [.int 0, .int 0])) := ⟨0, 0, rfl, by decide, by decide⟩
theorem sSeq_nx {f g : DS → Out} {ds ds' : DS} (h : f ds = .nx ds') : sSeq f g ds = g ds' := by unfold sSeq; rw [h]
theorem draw_call (fuel : Nat) (ns : List Int) (t : Sl) (m : Nat) (hm : 0 < m) (hm2 : m < 1073741824) (ht : Tw t) : ∃ (r : Nat) (c : Ct), F_law_draw fuel [.val (.scr ns), t, .val (.int m)] = .ret (.int r) [c] ∧ r < m ∧ Tw (.own c) := by
  obtain ⟨a, l, rfl, h1, h2⟩ := ht
  obtain ⟨r, a', l', e, r0, r1, l0, l1⟩ := draw_spec fuel ns a l m h1 h2 (by omega) (by omega)
  refine ⟨r.toNat, .l [.int a', .int l'], ?_, by omega, ⟨a', l', rfl, l0, l1⟩⟩
  rw [e, Int.toNat_of_nonneg r0]
theorem call_draw {fuel : Nat} {ns : List Int} {t : Sl} {rest : DS} {fm : DS → R (D × DS)} {m : Nat} (hf : fm (.val (.scr ns) :: t :: rest) = .ok (.int m, .val (.scr ns) :: t :: rest)) (hm : 0 < m) (hm2 : m < 1073741824) (ht : Tw t) :
    ∃ (r : Nat) (t' : Sl), fCallF (F_law_draw fuel) (aaVal (vGet 0) (aaOwn 1 (aaVal fm aaNil))) (.val (.scr ns) :: t :: rest) = .ok (.int r, .val (.scr ns) :: t' :: rest) ∧ r < m ∧ Tw t' := by
  obtain ⟨r, c, e, h1, h2⟩ := draw_call fuel ns t m hm hm2 ht
  obtain ⟨a, l, rfl, _, _⟩ := ht
  refine ⟨r, .own c, ?_, h1, h2⟩
  simp [fCallF, aaVal, aaOwn, aaNil, vGet, R.bind, hf, asOf, idxOf, e, putCs]
theorem pick_call (fuel : Nat) (ns : List Int) (t : Sl) (l : List D) (hl : l ≠ []) (h2 : l.length < 1073741824) (ht : Tw t) : ∃ (x : D) (c : Ct), F_law_pick fuel [.val (.scr ns), t, .val (.lst l)] = .ret x [c] ∧ x ∈ l ∧ Tw (.own c) := by
  have hp : 0 < l.length := List.length_pos_iff.mpr hl
  obtain ⟨r, t', e, h1, ht'⟩ := call_draw (fuel := fuel) (ns := ns) (t := t) (rest := [.val (.lst l)]) (fm := fCall dLen (aCons (vGet 2) aNil)) (m := l.length) (by simp [fCall, aCons, aNil, vGet, R.bind, lft, dLen]) hp h2 ht
  obtain ⟨a, z, rfl, _, _⟩ := ht
  obtain ⟨a2, z2, rfl, q1, q2⟩ := ht'
  refine ⟨l[r], .l [.int a2, .int z2], ?_, List.getElem_mem h1, ⟨a2, z2, rfl, q1, q2⟩⟩
  have g : dGetI (.lst l) (.int r) = some l[r] := by
    show atD l (r : Int) = _
    rw [atD_nat, List.getElem?_eq_getElem h1]
  simp [F_law_pick, defD, ownIx, B_law_pick, sRet, fBin, vGet, R.bind, List.replicate]
  simp [e, g, lft, R.bind, toOut, DL.finish, outsOf]
theorem call_pick {fuel : Nat} {ns : List Int} {t : Sl} {rest : DS} {fm : DS → R (D × DS)} {l : List D} (hf : fm (.val (.scr ns) :: t :: rest) = .ok (.lst l, .val (.scr ns) :: t :: rest)) (hl : l ≠ []) (h2 : l.length < 1073741824) (ht : Tw t) :
    ∃ (x : D) (t' : Sl), fCallF (F_law_pick fuel) (aaVal (vGet 0) (aaOwn 1 (aaVal fm aaNil))) (.val (.scr ns) :: t :: rest) = .ok (x, .val (.scr ns) :: t' :: rest) ∧ x ∈ l ∧ Tw t' := by
  obtain ⟨x, c, e, h1, h3⟩ := pick_call fuel ns t l hl h2 ht
  obtain ⟨a, z, rfl, _, _⟩ := ht
  refine ⟨x, .own c, ?_, h1, h3⟩
  simp [fCallF, aaVal, aaOwn, aaNil, vGet, R.bind, hf, asOf, idxOf, e, putCs]
/-! ### the law's records -/
theorem encR_app (a b : List (List Nat × Rv)) : encR (a ++ b) = encR a ++ encR b := by rw [encR_map, encR_map, encR_map, List.map_append]
theorem dput_new {acc : List (List Nat × Rv)} {k : List Nat} {v : Rv} (h : k ∉ acc.map (·.1)) : dput (encR acc) (.str k) (encV v) = encR (acc ++ [(k, v)]) := by
  have hn : (encR acc).any (fun kv => kv.1.beq (.str k)) = false := by
    rw [encR_map, List.any_map, List.any_eq_false]
    intro kv hkv
    show ¬ (D.str kv.1).beq (.str k) = true
    rw [beq_str, decide_eq_true_eq]
    exact fun z => h (by rw [← z]; exact List.mem_map_of_mem hkv)
  unfold dput
  rw [hn, encR_app]
  rfl
theorem encR_len (a : List (List Nat × Rv)) : (encR a).length = a.length := by rw [encR_map, List.length_map]
section
variable {c0 : Nat → List Sl → Res} {fuel : Nat} {ns : List Int}
/-- what a call of the record maker gives -/
def RecC (c0 : Nat → List Sl → Res) (fuel : Nat) (ns : List Int) (ps : List Pt) : Prop := ∀ t, Tw t → ∃ (q : List (List Nat × Rv)) (c : Ct), c0 fuel [.val (.scr ns), t, .val (.tup (encs ps))] = .reto (.d 0 (encR q)) [c] ∧ GenR ps q ∧ Tw (.own c)
theorem rec_call {ps : List Pt} (h : RecC c0 fuel ns ps) {t : Sl} {rest : DS} {fp : DS → R (D × DS)} (hf : fp (.val (.scr ns) :: t :: rest) = .ok (.tup (encs ps), .val (.scr ns) :: t :: rest)) (ht : Tw t) :
    ∃ (q : List (List Nat × Rv)) (t' : Sl), fCallF (c0 fuel) (aaVal (vGet 0) (aaOwn 1 (aaVal fp aaNil))) (.val (.scr ns) :: t :: rest) = .ok (.dic 0 (encR q), .val (.scr ns) :: t' :: rest) ∧ GenR ps q ∧ Tw t' := by
  obtain ⟨q, c, e, h1, h2⟩ := h t ht
  obtain ⟨a, z, rfl, _, _⟩ := ht
  refine ⟨q, .own c, ?_, h1, h2⟩
  simp [fCallF, aaVal, aaOwn, aaNil, vGet, R.bind, hf, asOf, idxOf, e, putCs, dOf, lft]
theorem rec_many {n s : List Nat} {ps : List Pt} (h : RecC c0 fuel ns ps) (x2 x3 : Sl) : ∀ (items : List D) (t : Sl), Tw t → ∃ (rs : List Rv) (t' : Sl),
    lcD [5] (gSet 5) bYes (fCallF (c0 fuel) (aaVal (vGet 0) (aaOwn 1 (aaVal (fBin dGetI (vGet 4) (vC (.int 3))) aaNil)))) items [.val (.scr ns), t, x2, x3, .val (enc (.rep n s ps)), .emp] = .ok (encVs rs, [.val (.scr ns), t', x2, x3, .val (enc (.rep n s ps)), .emp])
      ∧ rs.length = items.length ∧ (∀ x ∈ rs, ∃ r, x = .obj r ∧ GenR ps r) ∧ Tw t'
  | [], t, ht => ⟨[], t, rfl, rfl, by simp, ht⟩
  | d :: items, t, ht => by
    obtain ⟨q, t1, e1, hq, ht1⟩ := rec_call h (t := t) (rest := [x2, x3, .val (enc (.rep n s ps)), .val d]) (fp := fBin dGetI (vGet 4) (vC (.int 3))) (by simp [fBin, vGet, vC, R.bind, lft]; rfl) ht
    obtain ⟨rs, t2, e2, hl, hr, ht2⟩ := rec_many (n := n) (s := s) h x2 x3 items t1 ht1
    refine ⟨.obj q :: rs, t2, ?_, by simp [hl], fun x hx => ?_, ht2⟩
    · have hno : noOwn [5] [.val (.scr ns), t, x2, x3, .val (enc (.rep n s ps)), .emp] = true := rfl
      have w : gSet 5 d (wipeD [.val (.scr ns), t, x2, x3, .val (enc (.rep n s ps)), .emp] [5]) = some [.val (.scr ns), t, x2, x3, .val (enc (.rep n s ps)), .val d] := rfl
      have bk : backD [5] [.val (.scr ns), t, x2, x3, .val (enc (.rep n s ps)), .emp] [.val (.scr ns), t1, x2, x3, .val (enc (.rep n s ps)), .val d] = [.val (.scr ns), t1, x2, x3, .val (enc (.rep n s ps)), .emp] := rfl
      simp only [lcD, hno, if_true, w, bYes, quiet, R.bind_ok, e1, bk, e2, encVs, encV]
    · rcases List.mem_cons.mp hx with rfl | hx
      · exact ⟨q, rfl, hq⟩
      · exact hr x hx
theorem rec_body (p : Pt) (h0 : isText p = false → isField p = false → RecC c0 fuel ns (inn p)) (t : Sl) (ht : Tw t) (x2 : Sl) (acc : List (List Nat × Rv)) (hk : isText p = false → nm p ∉ acc.map (·.1)) (hl : acc.length < Ln) :
    ∃ (q : List (List Nat × Rv)) (t' : Sl), (sIf (toB (fBin dEq (fBin dGetI (vGet 4) (vC (.int 0))) (vC (.str [102, 105, 101, 108, 100])))) (B_law_record_i0 c0 fuel) (B_law_record_e3 c0 fuel)) [.val (.scr ns), t, x2, .own (.d 0 (encR acc)), .val (enc p), .emp] = .nx [.val (.scr ns), t', x2, .own (.d 0 (encR (acc ++ q))), .val (enc p), .emp]
      ∧ GenR [p] q ∧ Tw t' := by
  have g0 : dGetI (enc p) (.int 0) = some (.str (kind p)) := enc_0 p
  have g1 : dGetI (enc p) (.int 1) = some (.str (nm p)) := enc_1 p
  have hl' := encR_len acc
  cases p with
  | text s =>
    refine ⟨[], t, ?_, by rw [GenR]; exact .inl ⟨rfl, by rw [GenR]⟩, ht⟩
    simp [sIf, toB, fBin, vGet, vC, R.bind, lft, g0, eq_str, kind, kT, toOut, B_law_record_e3, sNx]
  | field n =>
    obtain ⟨x, t', e, hx, ht'⟩ := call_pick (fuel := fuel) (ns := ns) (t := t) (rest := [x2, .own (.d 0 (encR acc)), .val (enc (.field n)), .emp]) (fm := mkLst (aCons (vC (.str [97])) (aCons (vC (.str [98])) (aCons (vC (.str [97, 98])) (aCons (vC (.str [98, 97])) (aCons (vC (.str [99])) (aCons (vC (.str [97, 97, 98])) aNil)))))))
      (l := [.str [97], .str [98], .str [97, 98], .str [98, 97], .str [99], .str [97, 97, 98]]) (by simp [mkLst, aCons, aNil, vC, R.bind, Ln]) (by simp) (by simp) ht
    obtain ⟨w, rfl, hw⟩ : ∃ w, x = .str w ∧ overB w LET 1 8 = true := by
      simp only [List.mem_cons, List.not_mem_nil, or_false] at hx
      rcases hx with rfl | rfl | rfl | rfl | rfl | rfl <;> exact ⟨_, rfl, by decide⟩
    refine ⟨[(n, .word w)], t', ?_, by rw [GenR]; exact .inr ⟨rfl, .word w, [], rfl, by rw [GenV]; exact ⟨w, rfl, hw⟩, by rw [GenR]⟩, ht'⟩
    have dp := dput_new (v := .word w) (hk rfl)
    simp only [nm, encV] at dp g1
    simp [sIf, toB, fBin, vGet, vC, R.bind, lft, g0, eq_str, kind, kF, toOut, B_law_record_i0, sDPutD]
    simp [e, g1, fBin, vGet, vC, R.bind, lft, fitK_str, hl', hl, dp, nm, toOut]
  | opt n ps =>
    obtain ⟨r, t1, e1, hr, ht1⟩ := call_draw (fuel := fuel) (ns := ns) (t := t) (rest := [x2, .own (.d 0 (encR acc)), .val (enc (.opt n ps)), .emp]) (fm := vC (.int 2)) (m := 2) rfl (by decide) (by decide) ht
    have g2 : dGetI (enc (.opt n ps)) (.int 2) = some (.tup (encs ps)) := rfl
    simp only [nm] at g1
    have hz := eq_int (r : Int) 0
    by_cases h0r : r = 0
    · subst h0r
      refine ⟨[(n, .none)], t1, ?_, by rw [GenR]; exact .inr ⟨rfl, .none, [], rfl, by rw [GenV]; exact .inl rfl, by rw [GenR]⟩, ht1⟩
      have dp := dput_new (v := .none) (hk rfl)
      simp only [nm, encV] at dp
      simp [sIf, toB, fBin, vGet, vC, R.bind, lft, g0, eq_str, kind, kI, toOut, B_law_record_e3, B_law_record_i1, sDPutD, fIf]
      have hz' : dEq (.int 0) (.int 0) = some (.bl true) := rfl
      simp [e1, hz', g1, fBin, vGet, vC, R.bind, lft, fitK_str, hl', hl, dp, toOut]
    · obtain ⟨q, t2, e2, hq, ht2⟩ := rec_call (h0 rfl rfl) (t := t1) (rest := [x2, .own (.d 0 (encR acc)), .val (enc (.opt n ps)), .emp]) (fp := fBin dGetI (vGet 4) (vC (.int 2))) (by simp [fBin, vGet, vC, R.bind, lft, g2, inn]) ht1
      have hz0 : ((r : Int) == 0) = false := beq_eq_false_iff_ne.mpr (by omega)
      rw [hz0] at hz
      refine ⟨[(n, .obj q)], t2, ?_, by rw [GenR]; exact .inr ⟨rfl, .obj q, [], rfl, by rw [GenV]; exact .inr ⟨q, rfl, hq⟩, by rw [GenR]⟩, ht2⟩
      have dp := dput_new (v := .obj q) (hk rfl)
      simp only [nm, encV] at dp
      simp [sIf, toB, fBin, vGet, vC, R.bind, lft, g0, eq_str, kind, kI, toOut, B_law_record_e3, B_law_record_i1, sDPutD, fIf]
      simp [e1, hz, e2, g1, fBin, vGet, vC, R.bind, lft, fitK_str, hl', hl, dp, toOut]
  | rep n s ps =>
    obtain ⟨r, t1, e1, hr, ht1⟩ := call_draw (fuel := fuel) (ns := ns) (t := t) (rest := [x2, .own (.d 0 (encR acc)), .val (enc (.rep n s ps)), .emp]) (fm := vC (.int 4)) (m := 4) rfl (by decide) (by decide) ht
    simp only [nm] at g1
    obtain ⟨rs, t2, e2, hlen, hq, ht2⟩ := rec_many (n := n) (s := s) (ps := ps) (h0 rfl rfl) x2 (.own (.d 0 (encR acc))) (rngD 0 r) t1 ht1
    have hlr : rs.length ≤ 4 := by rw [hlen]; simp [rngD]; omega
    refine ⟨[(n, .recs rs)], t2, ?_, by rw [GenR]; exact .inr ⟨rfl, .recs rs, [], rfl, by rw [GenV]; exact ⟨rs, rfl, hlr, hq⟩, by rw [GenR]⟩, ht2⟩
    have dp := dput_new (v := .recs rs) (hk rfl)
    simp only [nm, encV] at dp
    have hb : (-(2 ^ 62) : Int) ≤ (r : Int) ∧ (r : Int) ≤ (Ln : Int) := by unfold Ln; omega
    simp [sIf, toB, fBin, vGet, vC, R.bind, lft, g0, eq_str, kind, kE, toOut, B_law_record_e3, B_law_record_i2, sDPutD, ofO, oLc, iRng1D, aCons, aNil]
    simp [e1, hb, e2, R.bind, dOf, lft, g1, fBin, vGet, vC, fitK_str, hl', hl, dp, toOut]
theorem gen_app1 {p : Pt} {ps : List Pt} {a b : List (List Nat × Rv)} (h1 : GenR [p] a) (h2 : GenR ps b) : GenR (p :: ps) (a ++ b) := by
  rw [GenR] at h1 ⊢
  rcases h1 with ⟨ht, h⟩ | ⟨ht, v, q, rfl, hv, h⟩
  · rw [GenR] at h; subst h
    exact .inl ⟨ht, h2⟩
  · rw [GenR] at h; subst h
    exact .inr ⟨ht, v, b, rfl, hv, h2⟩
theorem rec_loop (x2 : Sl) : ∀ (ps : List Pt), (∀ p ∈ ps, isText p = false → isField p = false → RecC c0 fuel ns (inn p)) → ∀ (t : Sl), Tw t → ∀ (acc : List (List Nat × Rv)) (x4 : Sl), (acc.map (·.1) ++ names ps).Nodup → acc.length + ps.length < Ln →
    ∃ (q : List (List Nat × Rv)) (t' y4 : Sl), forD (gSet 4) (sIf (toB (fBin dEq (fBin dGetI (vGet 4) (vC (.int 0))) (vC (.str [102, 105, 101, 108, 100])))) (B_law_record_i0 c0 fuel) (B_law_record_e3 c0 fuel)) (encs ps) [.val (.scr ns), t, x2, .own (.d 0 (encR acc)), x4, .emp] = .nx [.val (.scr ns), t', x2, .own (.d 0 (encR (acc ++ q))), y4, .emp]
      ∧ GenR ps q ∧ Tw t'
  | [], _, t, ht, acc, x4, _, _ => ⟨[], t, x4, by simp [encs, forD], by rw [GenR], ht⟩
  | p :: ps, h0, t, ht, acc, x4, nd, hl => by
    rw [List.length_cons] at hl
    rw [names_cons] at nd
    have hk : isText p = false → nm p ∉ acc.map (·.1) := fun hx z => by
      rw [if_neg (by simp [hx]), List.nodup_append] at nd
      exact nd.2.2 _ z _ List.mem_cons_self rfl
    obtain ⟨q, t1, e1, hq, ht1⟩ := rec_body (c0 := c0) (fuel := fuel) (ns := ns) p (h0 p List.mem_cons_self) t ht x2 acc hk (by omega)
    have hqk := gen_keys [p] q hq
    rw [names_cons] at hqk
    have hql : q.length ≤ 1 := by
      have : (q.map (·.1)).length ≤ 1 := by rw [hqk]; split <;> simp [names, named]
      simpa using this
    obtain ⟨q2, t2, y4, e2, hq2, ht2⟩ := rec_loop x2 ps (fun x hx => h0 x (List.mem_cons_of_mem _ hx)) t1 ht1 (acc ++ q) (.val (enc p)) (by
      rw [List.map_append, hqk, List.append_assoc]
      split
      · rename_i hx
        rw [if_pos hx] at nd
        simpa [names, named] using nd
      · rename_i hx
        rw [if_neg hx] at nd
        simpa [names, named] using nd) (by rw [List.length_append]; omega)
    refine ⟨q ++ q2, t2, y4, ?_, gen_app1 hq hq2, ht2⟩
    rw [encs, forD]
    simp only [gSet_app, List.set_cons_succ, List.set_cons_zero, e1, loopK, e2, List.append_assoc]
end
theorem law_record_spec (fuel : Nat) (ns : List Int) : ∀ (r d : Nat) (ps : List Pt), goodPs d ps = true → hgs ps + 1 ≤ r → RecC (F_law_record r) fuel ns ps
  | 0, _, _, _, h => by omega
  | r + 1, d, ps, hg, h => by
    intro t ht
    obtain ⟨g1, g2, g3, g4⟩ := good_parts hg
    have nd := (distinct_nodup _).mp g4
    obtain ⟨q, t', y4, e, hq, ht'⟩ := rec_loop (c0 := F_law_record r) (fuel := fuel) (ns := ns) (.val (.tup (encs ps))) ps (fun p hp hx hy => law_record_spec fuel ns r (d - 1) (inn p) (good_inn (List.all_eq_true.mp g3 p hp) hx hy) (by have := hgs_mem hp; rw [hgs_inn] at this; omega)) t ht [] .emp (by simpa using nd) (by unfold Ln; simp; omega)
    obtain ⟨a, z, rfl, hz1, hz2⟩ := ht
    obtain ⟨a2, z2, rfl, q1, q2⟩ := ht'
    refine ⟨q, _, ?_, hq, ⟨a2, z2, rfl, q1, q2⟩⟩
    show defD [1] 6 (B_law_record (F_law_record r)) fuel [.val (.scr ns), .own (.l [.int a, .int z]), .val (.tup (encs ps))] = _
    rw [List.nil_append] at e
    have e : forD (gSet 4) (sIf (toB (fBin dEq (fBin dGetI (vGet 4) (vC (.int 0))) (vC (.str [102, 105, 101, 108, 100])))) (B_law_record_i0 (F_law_record r) fuel) (B_law_record_e3 (F_law_record r) fuel)) (encs ps) [.val (.scr ns), .own (.l [.int a, .int z]), .val (.tup (encs ps)), .own (.d 0 []), .emp, .emp] = _ := e
    simp [defD, ownIx, B_law_record, sSeq, sSetO, oC, toOut, sFor, iSeq, vGet, R.bind, List.replicate]
    simp [e, sRetO, oMove, toOut, DL.finish, outsOf]
/-! ### the law's templates -/
/-- a template of the law: its names among the given ones, in order -/
inductive Gen (signs : List (List Nat)) : Nat → List (List Nat) → List Pt → Prop
  | nil {d : Nat} : Gen signs d [] []
  | text {d : Nat} {n s : List Nat} {l : List (List Nat)} {ps : List Pt} : s ∈ signs → Gen signs d l ps → Gen signs d (n :: l) (.text s :: ps)
  | field {d : Nat} {n : List Nat} {l : List (List Nat)} {ps : List Pt} : Gen signs d l ps → Gen signs d (n :: l) (.field n :: ps)
  | opt {d : Nat} {n : List Nat} {l m : List (List Nat)} {ps qs : List Pt} : m <+: [[97], [98]] → m ≠ [] → Gen signs d m qs → Gen signs (d + 1) l ps → Gen signs (d + 1) (n :: l) (.opt n qs :: ps)
  | rep {d k : Nat} {n s : List Nat} {l m : List (List Nat)} {ps qs : List Pt} : m <+: [[97], [98]] → m ≠ [] → Gen signs d m qs → k < 2 → s ∈ ([] :: [44] :: signs) → Gen signs (d + 1) l ps → Gen signs (d + 1) (n :: l) (.rep n s ((qs ++ [Pt.field [122]]).drop k) :: ps)
theorem Gen.length {signs : List (List Nat)} {d : Nat} {l : List (List Nat)} {ps : List Pt} (h : Gen signs d l ps) : ps.length = l.length := by
  induction h with
  | nil => rfl
  | text _ _ ih => simp [ih]
  | field _ ih => simp [ih]
  | opt _ _ _ _ _ ih => simp [ih]
  | rep _ _ _ _ _ _ _ ih => simp [ih]
theorem Gen.names {signs : List (List Nat)} {d : Nat} {l : List (List Nat)} {ps : List Pt} (h : Gen signs d l ps) : (LW.names ps).Sublist l := by
  induction h with
  | nil => exact List.Sublist.refl _
  | text _ _ ih => rw [names_cons]; exact List.Sublist.cons _ (by simpa [isText] using ih)
  | field _ ih => rw [names_cons]; simpa [isText, nm] using ih
  | opt _ _ _ _ _ ih => rw [names_cons]; simpa [isText, nm] using ih
  | rep _ _ _ _ _ _ _ ih => rw [names_cons]; simpa [isText, nm] using ih
def wordOk (s : List Nat) : Bool := overB s LIT 1 6
theorem names_app (a b : List Pt) : LW.names (a ++ b) = LW.names a ++ LW.names b := by unfold LW.names named; rw [List.filter_append, List.map_append]
theorem names_drop (k : Nat) (a : List Pt) : (LW.names (a.drop k)).Sublist (LW.names a) := by
  unfold LW.names named
  exact ((List.drop_sublist k a).filter _).map _
theorem Gen.good {signs : List (List Nat)} (hs : ∀ s ∈ signs, overB s LIT 1 6 = true ∧ overB s LIT 0 3 = true) : ∀ {d : Nat} {l : List (List Nat)} {ps : List Pt}, Gen signs d l ps → (∀ n ∈ l, overB n LET 1 4 = true) → l.Nodup → l.length ≤ 6 → ps.all (goodP d) = true := by
  intro d l ps h
  have pre : ∀ m : List (List Nat), m <+: [[97], [98]] → m ≠ [] → (∀ n ∈ m, overB n LET 1 4 = true) ∧ m.Nodup ∧ m.length ≤ 2 ∧ 1 ≤ m.length ∧ [122] ∉ m := fun m hp hn => by
    have hsub := hp.sublist
    refine ⟨fun n hm => ?_, hsub.nodup (by decide), hsub.length_le, List.length_pos_iff.mpr hn, fun z => ?_⟩
    · have := hsub.mem hm
      simp at this
      rcases this with rfl | rfl <;> decide
    · have := hsub.mem z
      simp at this
  induction h with
  | nil => intro _ _ _; rfl
  | text hx _ ih =>
    intro h1 h2 h3
    rw [List.all_cons, ih (fun n hn => h1 n (List.mem_cons_of_mem _ hn)) (List.nodup_cons.mp h2).2 (by simp at h3; omega), Bool.and_true]
    simp only [goodP]; exact (hs _ hx).1
  | field _ ih =>
    intro h1 h2 h3
    rw [List.all_cons, ih (fun n hn => h1 n (List.mem_cons_of_mem _ hn)) (List.nodup_cons.mp h2).2 (by simp at h3; omega), Bool.and_true]
    simp only [goodP]; exact h1 _ List.mem_cons_self
  | @opt d n l m ps qs hm hm0 hq _ ihq ih =>
    intro h1 h2 h3
    obtain ⟨p1, p2, p3, p4, _⟩ := pre m hm hm0
    rw [List.all_cons, ih (fun n hn => h1 n (List.mem_cons_of_mem _ hn)) (List.nodup_cons.mp h2).2 (by simp at h3; omega), Bool.and_true]
    have hl := hq.length
    have dn : distinct (LW.names qs) = true := (distinct_nodup _).mpr (hq.names.nodup p2)
    simp only [goodP, goodPs, goodAll_all, Nat.add_sub_cancel, ihq p1 p2 (by omega), dn, h1 _ List.mem_cons_self, Bool.and_true, Bool.true_and, decide_eq_true_eq, Bool.and_eq_true]
    omega
  | @rep d k n s l m ps qs hm hm0 hq hk hs2 _ ihq ih =>
    intro h1 h2 h3
    obtain ⟨p1, p2, p3, p4, p5⟩ := pre m hm hm0
    rw [List.all_cons, ih (fun n hn => h1 n (List.mem_cons_of_mem _ hn)) (List.nodup_cons.mp h2).2 (by simp at h3; omega), Bool.and_true]
    have hl := hq.length
    have aq := ihq p1 p2 (by omega)
    have ed : (qs ++ [Pt.field [122]]).drop k = qs.drop k ++ [Pt.field [122]] := by rw [List.drop_append_of_le_length (by omega)]
    have e1 : ((qs ++ [Pt.field [122]]).drop k).length = qs.length + 1 - k := by rw [List.length_drop, List.length_append]; rfl
    have a1 : ((qs ++ [Pt.field [122]]).drop k).all (goodP d) = true := by
      rw [ed, List.all_append, Bool.and_eq_true]
      refine ⟨List.all_eq_true.mpr fun x hx => List.all_eq_true.mp aq x (List.mem_of_mem_drop hx), ?_⟩
      simp only [List.all_cons, List.all_nil, goodP, Bool.and_true]
      decide
    have a2 : ((qs ++ [Pt.field [122]]).drop k).any isField = true := by rw [ed, List.any_append]; simp [isField]
    have nd : (LW.names (qs ++ [Pt.field [122]])).Nodup := by
      rw [names_app]
      show (LW.names qs ++ [[122]]).Nodup
      rw [List.nodup_append]
      refine ⟨hq.names.nodup p2, by simp, fun x hx y hy z => ?_⟩
      rw [List.mem_singleton] at hy
      subst hy
      subst z
      exact p5 (hq.names.mem hx)
    have dn : distinct (LW.names ((qs ++ [Pt.field [122]]).drop k)) = true := (distinct_nodup _).mpr ((names_drop k _).nodup nd)
    have so : overB s LIT 0 3 = true := by
      rcases List.mem_cons.mp hs2 with rfl | hs2
      · decide
      · rcases List.mem_cons.mp hs2 with rfl | hs2
        · decide
        · exact (hs s hs2).2
    simp only [goodP, goodPs, goodAll_all, Nat.add_sub_cancel, a1, a2, dn, so, e1, h1 _ List.mem_cons_self, Bool.and_true, Bool.true_and, decide_eq_true_eq, Bool.and_eq_true]
    omega
theorem all_hgs {d : Nat} : ∀ {ps : List Pt}, ps.all (goodP d) = true → hgs ps ≤ d + 1
  | [], _ => Nat.zero_le _
  | p :: ps, h => by
    rw [List.all_cons, Bool.and_eq_true] at h
    have h1 := (good_hgs d).2 p h.1
    have h2 := all_hgs h.2
    unfold hgs
    omega
theorem encs_app (a b : List Pt) : encs (a ++ b) = encs a ++ encs b := by rw [encs_map, encs_map, encs_map, List.map_append]
theorem plain_lst (l : List Pt) (h : hgs l ≤ 20) : plainD 60 (.lst (encs l)) = true := by
  show (encs l).all (plainD 59) = true
  have := (plain_enc 60).1 l (by omega)
  exact this
theorem eq_lst0 (l : List Pt) (h : hgs l ≤ 20) : dEq (.lst (encs l)) (.lst []) = some (.bl l.isEmpty) := by
  unfold dEq
  rw [if_pos ⟨plain_lst l h, rfl⟩]
  cases l with
  | nil => rfl
  | cons p l => rw [encs]; rfl
theorem last_enc (l : List Pt) (h : l ≠ []) : dIx (.lst (encs l)) (.int (-1)) = some (enc (l.getLast h)) := by
  have hl : 0 < l.length := List.length_pos_iff.mpr h
  show atD (encs l) (-1) = _
  unfold atD
  rw [if_neg (by decide), if_pos (by rw [encs_len]; omega), encs_len]
  have e : (-1 + (l.length : Int)).toNat = l.length - 1 := by omega
  rw [e, encs_map, List.getElem?_map, List.getElem?_eq_getElem (by omega), Option.map_some, List.getLast_eq_getElem]
section
variable {c0 : Nat → List Sl → Res} {fuel : Nat} {ns : List Int} {signs : List (List Nat)}
def PartsC (c0 : Nat → List Sl → Res) (fuel : Nat) (ns : List Int) (signs : List (List Nat)) (d : Nat) : Prop := ∀ t, Tw t → ∃ (m : List (List Nat)) (qs : List Pt) (c : Ct), c0 fuel [.val (.scr ns), t, .val (.int d), .val (.int 2), .val (.lst (signs.map .str))] = .ret (.tup (encs qs)) [c] ∧ m <+: [[97], [98]] ∧ m ≠ [] ∧ Gen signs d m qs ∧ Tw (.own c)
theorem parts_call {d : Nat} (hd : 0 < d) (h : PartsC c0 fuel ns signs (d - 1)) {t x3 : Sl} {rest : DS} (ht : Tw t) :
    ∃ (m : List (List Nat)) (qs : List Pt) (t' : Sl), fCallF (c0 fuel) (aaVal (vGet 0) (aaOwn 1 (aaVal (fBin dSub (vGet 2) (vC (.int 1))) (aaVal (vC (.int 2)) (aaVal (vGet 4) aaNil))))) (.val (.scr ns) :: t :: .val (.int d) :: x3 :: .val (.lst (signs.map .str)) :: rest) = .ok (.tup (encs qs), .val (.scr ns) :: t' :: .val (.int d) :: x3 :: .val (.lst (signs.map .str)) :: rest) ∧ m <+: [[97], [98]] ∧ m ≠ [] ∧ Gen signs (d - 1) m qs ∧ Tw t' := by
  obtain ⟨m, qs, c, e, h1, h2, h3, h4⟩ := h t ht
  obtain ⟨a, z, rfl, _, _⟩ := ht
  refine ⟨m, qs, .own c, ?_, h1, h2, h3, h4⟩
  have es : dSub (.int (d : Int)) (.int 1) = some (.int ((d - 1 : Nat) : Int)) := by
    show some (D.int ((d : Int) - 1)) = _
    congr 2; omega
  simp [fCallF, aaVal, aaOwn, aaNil, fBin, vGet, vC, R.bind, lft, es, asOf, idxOf, e, putCs]
theorem in2' (k a b : List Nat) : dIn (.str k) (.tup [.str a, .str b]) = some (.bl (decide (a = k) || (decide (b = k) || false))) := rfl
theorem parts_body {d : Nat} (hd20 : d ≤ 10) (hsg : signs ≠ []) (hsl : signs.length < 1000) (h0 : 0 < d → PartsC c0 fuel ns signs (d - 1)) (t : Sl) (ht : Tw t) (x3 : Sl) (acc : List Pt) (ha : hgs acc ≤ 20) (hl : acc.length < Ln) (n : List Nat) (x7 x8 : Sl) :
    ∃ (p : Pt) (t' y7 y8 : Sl), B_law_parts_f3 c0 fuel [.val (.scr ns), t, .val (.int d), x3, .val (.lst (signs.map .str)), .own (.l (encs acc)), .val (.str n), x7, x8] = .nx [.val (.scr ns), t', .val (.int d), x3, .val (.lst (signs.map .str)), .own (.l (encs (acc ++ [p]))), .val (.str n), y7, y8]
      ∧ Gen signs d [n] [p] ∧ Tw t' := by
  obtain ⟨x, t1, e1, hx, ht1⟩ := call_pick (fuel := fuel) (ns := ns) (t := t) (rest := [.val (.int d), x3, .val (.lst (signs.map .str)), .own (.l (encs acc)), .val (.str n), x7, x8]) (fm := mkLst (aCons (vC (.str [116, 101, 120, 116])) (aCons (vC (.str [102, 105, 101, 108, 100])) (aCons (vC (.str [102, 105, 101, 108, 100])) (aCons (vC (.str [105, 102])) (aCons (vC (.str [101, 97, 99, 104])) aNil))))))
    (l := [.str kT, .str kF, .str kF, .str kI, .str kE]) (by simp [mkLst, aCons, aNil, vC, R.bind, Ln, kT, kF, kI, kE]) (by simp) (by simp) ht
  have hel := encs_len acc
  have fin : ∀ p : Pt, encs acc ++ [enc p] = encs (acc ++ [p]) := fun p => by rw [encs_app]; simp [encs]
  have fF : ∀ (t2 y8 : Sl) (k : List Nat), sApp 5 (mkTup (aCons (vC (.str [102, 105, 101, 108, 100])) (aCons (vGet 6) aNil))) [.val (.scr ns), t2, .val (.int d), x3, .val (.lst (signs.map .str)), .own (.l (encs acc)), .val (.str n), .val (.str k), y8] = .nx [.val (.scr ns), t2, .val (.int d), x3, .val (.lst (signs.map .str)), .own (.l (encs (acc ++ [.field n]))), .val (.str n), .val (.str k), y8] := fun t2 y8 k => by
    have := fin (.field n)
    simp only [enc, kF] at this
    have h2 : (2 : Nat) ≤ Ln := by decide
    simp [sApp, mkTup, aCons, aNil, vC, vGet, R.bind, h2, toOut, hel, hl, this]
  obtain ⟨k, rfl, hk⟩ : ∃ k, x = .str k ∧ (k = kT ∨ k = kF ∨ k = kI ∨ k = kE) := by
    simp only [List.mem_cons, List.not_mem_nil, or_false] at hx
    rcases hx with rfl | rfl | rfl | rfl | rfl
    · exact ⟨_, rfl, .inl rfl⟩
    · exact ⟨_, rfl, .inr (.inl rfl)⟩
    · exact ⟨_, rfl, .inr (.inl rfl)⟩
    · exact ⟨_, rfl, .inr (.inr (.inl rfl))⟩
    · exact ⟨_, rfl, .inr (.inr (.inr rfl))⟩
  have tst : ∃ b : Bool, bAnd (toB (fBin dEq (vGet 7) (vC (.str [116, 101, 120, 116])))) (bOr (toB (fEqOwn false 5 (mkLst aNil))) (toB (fBin dNe (fBin dGetI (fIxOwn 5 (fUn dNeg (vC (.int 1)))) (vC (.int 0))) (vC (.str [116, 101, 120, 116])))))
      [.val (.scr ns), t1, .val (.int d), x3, .val (.lst (signs.map .str)), .own (.l (encs acc)), .val (.str n), .val (.str k), x8] = .ok (b, [.val (.scr ns), t1, .val (.int d), x3, .val (.lst (signs.map .str)), .own (.l (encs acc)), .val (.str n), .val (.str k), x8]) ∧ (b = true → k = kT) := by
    by_cases hkT : k = kT
    · subst hkT
      have q0 := eq_lst0 acc ha
      by_cases hacc : acc = []
      · subst hacc
        refine ⟨true, ?_, fun _ => rfl⟩
        simp [bAnd, bOr, toB, fBin, vGet, vC, R.bind, lft, eq_str, kT, fEqOwn, mkLst, aNil, Ln, encs]
        simp [encs] at q0
        simp [q0]
      · have q1 := last_enc acc hacc
        have q2 := enc_0 (acc.getLast hacc)
        have q3 : acc.isEmpty = false := by simpa using hacc
        rw [q3] at q0
        refine ⟨!isText (acc.getLast hacc), ?_, fun _ => rfl⟩
        simp [bAnd, bOr, toB, fBin, vGet, vC, R.bind, lft, eq_str, kT, fEqOwn, mkLst, aNil, Ln, q0, fIxOwn, fUn, dNeg, q1, q2, ne_str, kind_text]
    · refine ⟨false, ?_, fun z => by cases z⟩
      have : decide (k = [116, 101, 120, 116]) = false := decide_eq_false hkT
      simp [bAnd, toB, fBin, vGet, vC, R.bind, lft, eq_str, this]
  obtain ⟨b, tst, hb⟩ := tst
  have start : B_law_parts_f3 c0 fuel [.val (.scr ns), t, .val (.int d), x3, .val (.lst (signs.map .str)), .own (.l (encs acc)), .val (.str n), x7, x8] = (if b = true then sApp 5 (mkTup (aCons (vGet 7) (aCons (fCallF (F_law_pick fuel) (aaVal (vGet 0) (aaOwn 1 (aaVal (vGet 4) aaNil)))) aNil))) else B_law_parts_e2 c0 fuel) [.val (.scr ns), t1, .val (.int d), x3, .val (.lst (signs.map .str)), .own (.l (encs acc)), .val (.str n), .val (.str k), x8] := by
    rw [B_law_parts_f3, sSeq_nx (ds' := [.val (.scr ns), t1, .val (.int d), x3, .val (.lst (signs.map .str)), .own (.l (encs acc)), .val (.str n), .val (.str k), x8]) (by simp [sAsg, e1, gSet_app])]
    unfold sIf
    rw [tst]
    cases b <;> rfl
  rw [start]
  cases b with
  | true =>
    have hkT := hb rfl
    subst hkT
    obtain ⟨x, t2, e2, hx2, ht2⟩ := call_pick (fuel := fuel) (ns := ns) (t := t1) (rest := [.val (.int d), x3, .val (.lst (signs.map .str)), .own (.l (encs acc)), .val (.str n), .val (.str kT), x8]) (fm := vGet 4) (l := signs.map .str) (by simp [vGet]) (by simpa using hsg) (by rw [List.length_map]; omega) ht1
    obtain ⟨s, hs, rfl⟩ := List.mem_map.mp hx2
    refine ⟨.text s, t2, .val (.str kT), x8, ?_, .text hs .nil, ht2⟩
    have := fin (.text s)
    simp only [enc] at this
    have h2 : (2 : Nat) ≤ Ln := by decide
    simp [sApp, mkTup, aCons, aNil, vGet, R.bind, e2, h2, toOut, hel, hl, this]
  | false =>
    simp only [Bool.false_eq_true, if_false]
    have tIn : toB (fBin dIn (vGet 7) (mkTup (aCons (vC (.str [116, 101, 120, 116])) (aCons (vC (.str [102, 105, 101, 108, 100])) aNil)))) [.val (.scr ns), t1, .val (.int d), x3, .val (.lst (signs.map .str)), .own (.l (encs acc)), .val (.str n), .val (.str k), x8] = .ok (decide (kT = k) || (decide (kF = k) || false), [.val (.scr ns), t1, .val (.int d), x3, .val (.lst (signs.map .str)), .own (.l (encs acc)), .val (.str n), .val (.str k), x8]) := by
      have e : mkTup (aCons (vC (.str [116, 101, 120, 116])) (aCons (vC (.str [102, 105, 101, 108, 100])) aNil)) [.val (.scr ns), t1, .val (.int d), x3, .val (.lst (signs.map .str)), .own (.l (encs acc)), .val (.str n), .val (.str k), x8] = .ok (.tup [.str kT, .str kF], [.val (.scr ns), t1, .val (.int d), x3, .val (.lst (signs.map .str)), .own (.l (encs acc)), .val (.str n), .val (.str k), x8]) := by simp [mkTup, aCons, aNil, vC, R.bind, Ln, kT, kF]
      simp only [toB, fBin, vGet, List.getElem?_cons_succ, List.getElem?_cons_zero, R.bind_ok, e, in2', lft_some]
    have tZ : toB (fBin dEq (vGet 2) (vC (.int 0))) [.val (.scr ns), t1, .val (.int d), x3, .val (.lst (signs.map .str)), .own (.l (encs acc)), .val (.str n), .val (.str k), x8] = .ok (((d : Int) == 0), [.val (.scr ns), t1, .val (.int d), x3, .val (.lst (signs.map .str)), .own (.l (encs acc)), .val (.str n), .val (.str k), x8]) := by
      simp only [toB, fBin, vGet, vC, List.getElem?_cons_succ, List.getElem?_cons_zero, R.bind_ok, eq_int, lft_some]
    have e2 : B_law_parts_e2 c0 fuel [.val (.scr ns), t1, .val (.int d), x3, .val (.lst (signs.map .str)), .own (.l (encs acc)), .val (.str n), .val (.str k), x8] = (if ((decide (kT = k) || (decide (kF = k) || false)) || ((d : Int) == 0)) = true then sApp 5 (mkTup (aCons (vC (.str [102, 105, 101, 108, 100])) (aCons (vGet 6) aNil))) else B_law_parts_e1 c0 fuel) [.val (.scr ns), t1, .val (.int d), x3, .val (.lst (signs.map .str)), .own (.l (encs acc)), .val (.str n), .val (.str k), x8] := by
      unfold B_law_parts_e2 sIf bOr
      rw [tIn, R.bind_ok]
      cases (decide (kT = k) || (decide (kF = k) || false)) with
      | true => rfl
      | false =>
        simp only [Bool.false_eq_true, if_false, tZ, Bool.false_or]
        cases ((d : Int) == 0) <;> rfl
    rw [e2]
    by_cases hf : ((decide (kT = k) || (decide (kF = k) || false)) || ((d : Int) == 0)) = true
    · rw [if_pos hf]
      exact ⟨.field n, t1, .val (.str k), x8, fF t1 x8 k, .field .nil, ht1⟩
    · rw [if_neg hf]
      simp only [Bool.or_eq_true, decide_eq_true_eq, Bool.or_false, beq_iff_eq, not_or] at hf
      have hd0 : 0 < d := by omega
      obtain ⟨d', rfl⟩ : ∃ d', d = d' + 1 := ⟨d - 1, by omega⟩
      obtain ⟨m, qs, t2, ec, hm, hm0, hq, ht2⟩ := parts_call hd0 (h0 hd0) (x3 := x3) (rest := [.own (.l (encs acc)), .val (.str n), .val (.str k), x8]) ht1
      rw [Nat.add_sub_cancel] at hq
      rcases hk with rfl | rfl | rfl | rfl
      · exact absurd rfl hf.1.1
      · exact absurd rfl hf.1.2
      · refine ⟨.opt n qs, t2, .val (.str kI), x8, ?_, .opt hm hm0 hq .nil, ht2⟩
        have := fin (.opt n qs)
        simp only [enc] at this
        try simp only [kI] at this
        try simp only [kI] at ec
        have cd : ((d' + 1 : Nat) : Int) = (d' : Int) + 1 := by omega
        rw [cd] at ec ⊢
        try simp only [kI]
        have h3 : (3 : Nat) ≤ Ln := by decide
        simp [B_law_parts_e1, sIf, toB, fBin, vGet, vC, R.bind, lft, eq_str, toOut, sApp, mkTup, aCons, aNil, ec, h3, hel, hl, this]
      · obtain ⟨x, t3, e3, hx3, ht3⟩ := call_pick (fuel := fuel) (ns := ns) (t := t2) (rest := [.val (.int ((d' + 1 : Nat) : Int)), x3, .val (.lst (signs.map .str)), .own (.l (encs acc)), .val (.str n), .val (.str kE), .val (.tup (encs (qs ++ [Pt.field [122]])))]) (fm := fBin dAdd (mkLst (aCons (vC (.str [])) (aCons (vC (.str [44])) aNil))) (vGet 4)) (l := ([] :: [44] :: signs).map .str) (by
          have e : dAdd (.lst [.str [], .str [44]]) (.lst (signs.map .str)) = some (.lst (([] :: [44] :: signs).map .str)) := by
            unfold dAdd
            dsimp only
            rw [if_pos (by rw [List.length_map]; unfold Ln; simp; omega)]
            rfl
          have l2 : ([D.str [], D.str [44]] : List D).length ≤ Ln := by decide
          simp only [fBin, mkLst, aCons, aNil, vC, vGet, R.bind_ok, l2, if_true, List.getElem?_cons_succ, List.getElem?_cons_zero, e, lft_some]) (by simp) (by simp; omega) ht2
        obtain ⟨s, hs, rfl⟩ := List.mem_map.mp hx3
        obtain ⟨r, t4, e4, hr, ht4⟩ := call_draw (fuel := fuel) (ns := ns) (t := t3) (rest := [.val (.int ((d' + 1 : Nat) : Int)), x3, .val (.lst (signs.map .str)), .own (.l (encs acc)), .val (.str n), .val (.str kE), .val (.tup (encs (qs ++ [Pt.field [122]])))]) (fm := vC (.int 2)) (m := 2) rfl (by decide) (by decide) ht3
        refine ⟨.rep n s ((qs ++ [Pt.field [122]]).drop r), t4, .val (.str kE), .val (.tup (encs (qs ++ [Pt.field [122]]))), ?_, .rep hm hm0 hq hr hs .nil, ht4⟩
        have := fin (.rep n s ((qs ++ [Pt.field [122]]).drop r))
        simp only [enc] at this
        have hq2 := hq.length
        have hm2 := hm.length_le
        have ea : dAdd (.tup (encs qs)) (.tup [.tup [.str [102, 105, 101, 108, 100], .str [122]]]) = some (.tup (encs (qs ++ [Pt.field [122]]))) := by
          unfold dAdd
          dsimp only
          rw [if_pos (by rw [encs_len]; unfold Ln; simp at hm2 ⊢; omega), encs_app]
          rfl
        have es : dSl (.tup (encs (qs ++ [Pt.field [122]]))) (some (r : Int)) none = some (.tup (encs ((qs ++ [Pt.field [122]]).drop r))) := by
          have hlen : (encs (qs ++ [Pt.field [122]])).length = qs.length + 1 := by rw [encs_len, List.length_append]; rfl
          have hm1 : 1 ≤ qs.length := by have := List.length_pos_iff.mpr hm0; omega
          show some (D.tup (cutD (encs (qs ++ [Pt.field [122]])) (some (r : Int)) none)) = _
          unfold cutD
          rw [HT.sIx_nat, HT.sIx_none, Nat.min_eq_left (by omega), List.take_of_length_le (by rw [List.length_drop]; exact Nat.le_refl _), encs_map, encs_map, List.map_drop]
        have cd : ((d' + 1 : Nat) : Int) = (d' : Int) + 1 := by omega
        try simp only [kE] at this
        try simp only [kE] at ec
        try simp only [kE] at e3
        try simp only [kE] at e4
        try simp only [kE]
        rw [cd] at ec e3 e4 ⊢
        have h1l : (1 : Nat) ≤ Ln := by decide
        have h2l : (2 : Nat) ≤ Ln := by decide
        have h4l : (4 : Nat) ≤ Ln := by decide
        simp [B_law_parts_e1, B_law_parts_e0, sIf, sSeq, sAsg, toB, fBin, vGet, vC, R.bind, lft, eq_str, toOut, mkTup, aCons, aNil, ec, h1l, h2l, h4l, ea, gSet_app, sApp, fSl, oSome, oNone, e3, e4, es, hel, hl, this]
end
theorem hgs_app : ∀ (a b : List Pt), hgs (a ++ b) = max (hgs a) (hgs b)
  | [], b => by simp [hgs]
  | p :: a, b => by
    rw [List.cons_append, hgs, hgs, hgs_app a b]
    omega
theorem hgs_drop : ∀ (k : Nat) (a : List Pt), hgs (a.drop k) ≤ hgs a
  | 0, a => by simp
  | k + 1, [] => by simp
  | k + 1, p :: a => by
    rw [List.drop_succ_cons, hgs]
    have := hgs_drop k a
    omega
theorem Gen.hgs {signs : List (List Nat)} {d : Nat} {l : List (List Nat)} {ps : List Pt} (h : Gen signs d l ps) : LW.hgs ps ≤ d + 1 := by
  induction h with
  | nil => exact Nat.zero_le _
  | text _ _ ih => rw [LW.hgs, hgP]; omega
  | field _ ih => rw [LW.hgs, hgP]; omega
  | opt _ _ _ _ ihq ih => rw [LW.hgs, hgP]; omega
  | @rep d k n s l m ps qs _ _ _ _ _ _ ihq ih =>
    rw [LW.hgs, hgP]
    have h1 := hgs_drop k (qs ++ [Pt.field [122]])
    have h2 := hgs_app qs [Pt.field [122]]
    have h3 : LW.hgs [Pt.field [122]] = 1 := rfl
    omega
theorem Gen.app {signs : List (List Nat)} {d : Nat} {l m : List (List Nat)} {a b : List Pt} (h : Gen signs d l a) (k : Gen signs d m b) : Gen signs d (l ++ m) (a ++ b) := by
  induction h with
  | nil => exact k
  | text hs _ ih => exact .text hs (ih k)
  | field _ ih => exact .field (ih k)
  | opt h1 h2 h3 _ _ ih => exact .opt h1 h2 h3 (ih k)
  | rep h1 h2 h3 h4 h5 _ _ ih => exact .rep h1 h2 h3 h4 h5 (ih k)
section
variable {c0 : Nat → List Sl → Res} {fuel : Nat} {ns : List Int} {signs : List (List Nat)}
theorem parts_loop {d : Nat} (hd : d ≤ 10) (hsg : signs ≠ []) (hsl : signs.length < 1000) (h0 : 0 < d → PartsC c0 fuel ns signs (d - 1)) (x3 : Sl) : ∀ (l : List (List Nat)) (t : Sl), Tw t → ∀ (l0 : List (List Nat)) (acc : List Pt) (x6 x7 x8 : Sl), Gen signs d l0 acc → l0.length + l.length < 1000 →
    ∃ (ps : List Pt) (t' y6 y7 y8 : Sl), forD (gSet 6) (B_law_parts_f3 c0 fuel) (l.map .str) [.val (.scr ns), t, .val (.int d), x3, .val (.lst (signs.map .str)), .own (.l (encs acc)), x6, x7, x8] = .nx [.val (.scr ns), t', .val (.int d), x3, .val (.lst (signs.map .str)), .own (.l (encs (acc ++ ps))), y6, y7, y8]
      ∧ Gen signs d l ps ∧ Tw t'
  | [], t, ht, l0, acc, x6, x7, x8, _, _ => ⟨[], t, x6, x7, x8, by simp [forD], .nil, ht⟩
  | n :: l, t, ht, l0, acc, x6, x7, x8, hg, hl => by
    rw [List.length_cons] at hl
    have hgl := hg.length
    obtain ⟨p, t1, y7, y8, e1, hp, ht1⟩ := parts_body (c0 := c0) (fuel := fuel) (ns := ns) hd hsg hsl h0 t ht x3 acc (by have := hg.hgs; omega) (by unfold Ln; omega) n x7 x8
    obtain ⟨ps, t2, z6, z7, z8, e2, hps, ht2⟩ := parts_loop hd hsg hsl h0 x3 l t1 ht1 (l0 ++ [n]) (acc ++ [p]) (.val (.str n)) y7 y8 (hg.app hp) (by simp; omega)
    refine ⟨p :: ps, t2, z6, z7, z8, ?_, hp.app hps, ht2⟩
    rw [List.map_cons, forD]
    simp only [gSet_app, List.set_cons_succ, List.set_cons_zero, e1, loopK, e2, List.append_assoc, List.cons_append, List.nil_append]
end
def ABCE : List (List Nat) := [[97], [98], [99, 100], [101]]
theorem law_parts_spec (fuel : Nat) (ns : List Int) {signs : List (List Nat)} (hsg : signs ≠ []) (hsl : signs.length < 1000) : ∀ (r d : Nat), d ≤ 10 → d + 1 ≤ r → ∀ (most : Nat), 0 < most → most ≤ 4 → ∀ t, Tw t →
    ∃ (k : Nat) (ps : List Pt) (c : Ct), F_law_parts r fuel [.val (.scr ns), t, .val (.int d), .val (.int most), .val (.lst (signs.map .str))] = .ret (.tup (encs ps)) [c] ∧ k < most ∧ Gen signs d (ABCE.take (1 + k)) ps ∧ Tw (.own c)
  | 0, _, _, h, _, _, _, _, _ => by omega
  | r + 1, d, hd, h, most, hm, hm4, t, ht => by
    have h0 : 0 < d → PartsC (F_law_parts r) fuel ns signs (d - 1) := fun hd0 t ht => by
      obtain ⟨k, ps, c, e, hk, hg, hc⟩ := law_parts_spec fuel ns hsg hsl r (d - 1) (by omega) (by omega) 2 (by decide) (by decide) t ht
      refine ⟨ABCE.take (1 + k), ps, c, e, ?_, ?_, hg, hc⟩
      · have hk2 : k = 0 ∨ k = 1 := by omega
        rcases hk2 with rfl | rfl
        · exact ⟨[[98]], rfl⟩
        · exact ⟨[], rfl⟩
      · have hk2 : k = 0 ∨ k = 1 := by omega
        rcases hk2 with rfl | rfl <;> simp [ABCE]
    obtain ⟨k, t1, e1, hk, ht1⟩ := call_draw (fuel := fuel) (ns := ns) (t := t) (rest := [.val (.int d), .val (.int most), .val (.lst (signs.map .str)), .own (.l []), .emp, .emp, .emp]) (fm := vGet 3) (m := most) (by simp [vGet]) hm (by omega) ht
    obtain ⟨ps, t2, y6, y7, y8, e2, hg, ht2⟩ := parts_loop (c0 := F_law_parts r) (fuel := fuel) (ns := ns) hd hsg hsl h0 (.val (.int most)) (ABCE.take (1 + k)) t1 ht1 [] [] .emp .emp .emp .nil (by simp [ABCE]; omega)
    obtain ⟨a, z, rfl, hz1, hz2⟩ := ht
    obtain ⟨a2, z2, rfl, q1, q2⟩ := ht2
    refine ⟨k, ps, .l [.int a2, .int z2], ?_, hk, hg, ⟨a2, z2, rfl, q1, q2⟩⟩
    show defD [1] 9 (B_law_parts (F_law_parts r)) fuel [.val (.scr ns), .own (.l [.int a, .int z]), .val (.int d), .val (.int most), .val (.lst (signs.map .str))] = _
    have es : dSl (.lst [.str [97], .str [98], .str [99, 100], .str [101]]) none (some (1 + (k : Int))) = some (.lst ((ABCE.take (1 + k)).map .str)) := by
      have h4 : k = 0 ∨ k = 1 ∨ k = 2 ∨ k = 3 := by omega
      rcases h4 with rfl | rfl | rfl | rfl <;> rfl
    have h4l : (4 : Nat) ≤ Ln := by decide
    rw [List.nil_append] at e2
    have e2 : forD (gSet 6) (B_law_parts_f3 (F_law_parts r) fuel) ((ABCE.take (1 + k)).map .str) [.val (.scr ns), t1, .val (.int d), .val (.int most), .val (.lst (signs.map .str)), .own (.l []), .emp, .emp, .emp] = _ := e2
    simp [defD, ownIx, B_law_parts, sSeq, sSetO, oLst, aNil, R.bind, toOut, sFor, iSeq, fSl, mkLst, aCons, vC, h4l, oNone, oSome, fBin, List.replicate]
    simp [e1, add_int, lft, R.bind, es, toOut]
    rw [List.map_take] at e2
    simp [e2, sRet, fCall, aCons, aNil, vGetF, dOf, lft, R.bind, dTuple, toOut, DL.finish, outsOf]
/-! ### the law's count of parts -/
theorem sec_test {d : Nat} (p : Pt) (h : goodP d p = true) : (decide ([105, 102] = kind p) || (decide ([101, 97, 99, 104] = kind p) || false)) = !(inn p).isEmpty := by
  cases p with
  | text s => rfl
  | field s => rfl
  | opt n ps =>
    have := good_inn h rfl rfl
    have := (good_parts this).1
    simp only [inn] at this
    cases ps with
    | nil => simp at this
    | cons a b => rfl
  | rep n s ps =>
    have := good_inn h rfl rfl
    have := (good_parts this).1
    simp only [inn] at this
    cases ps with
    | nil => simp at this
    | cons a b => rfl
theorem last_inn {d : Nat} (p : Pt) (h : (!(inn p).isEmpty) = true) : dGetI (enc p) (.int (-1)) = some (.tup (encs (inn p))) := by
  cases p with
  | text s => simp [inn] at h
  | field s => simp [inn] at h
  | opt n ps => rfl
  | rep n s ps => rfl
theorem sum_sec (f : Pt → Nat) (hf : ∀ p, (inn p).isEmpty = true → f p = 0) : ∀ l : List Pt, ((l.filter fun p => !(inn p).isEmpty).map f).sum = (l.map f).sum
  | [] => rfl
  | p :: l => by
    have ih := sum_sec f hf l
    cases h : (inn p).isEmpty with
    | true => simp [List.filter_cons, h, ih, hf p h]
    | false => simp [List.filter_cons, h, ih]
theorem law_many_spec (fuel : Nat) : ∀ (r d : Nat) (ps : List Pt), ps.all (goodP d) = true → hgs ps + 1 ≤ r → F_law_many r fuel [.val (.tup (encs ps))] = .ret (.tup [.int (mcs ps).1, .int (mcs ps).2]) []
  | 0, _, _, _, h => by omega
  | r + 1, d, ps, hg, h => by
    show defD [] 5 (B_law_many (F_law_many r)) fuel [.val (.tup (encs ps))] = _
    have e1 : lcD [2] (gSet 2) (toB (fBin dIn (fBin dGetI (vGet 2) (vC (.int 0))) (mkTup (aCons (vC (.str [105, 102])) (aCons (vC (.str [101, 97, 99, 104])) aNil))))) (fCallF (F_law_many r fuel) (aaVal (fBin dGetI (vGet 2) (fUn dNeg (vC (.int 1)))) aaNil)) (encs ps) [.val (.tup (encs ps)), .emp, .emp, .emp, .emp] = .ok ((ps.filter fun p => !(inn p).isEmpty).map fun p => D.tup [.int (mcs (inn p)).1, .int (mcs (inn p)).2], [.val (.tup (encs ps)), .emp, .emp, .emp, .emp]) := by
      rw [encs_map ps]
      refine lcD_filter enc (fun p => !(inn p).isEmpty) _ (by rfl) ps fun p hp => ⟨[.val (.tup (ps.map enc)), .emp, .val (enc p), .emp, .emp], [.val (.tup (ps.map enc)), .emp, .val (enc p), .emp, .emp], rfl, ?_, fun _ => rfl, fun hb => ⟨[.val (.tup (ps.map enc)), .emp, .val (enc p), .emp, .emp], ?_, rfl⟩⟩
      · have hs := sec_test p (List.all_eq_true.mp hg p hp)
        have e : mkTup (aCons (vC (.str [105, 102])) (aCons (vC (.str [101, 97, 99, 104])) aNil)) [.val (.tup (ps.map enc)), .emp, .val (enc p), .emp, .emp] = .ok (.tup [.str [105, 102], .str [101, 97, 99, 104]], [.val (.tup (ps.map enc)), .emp, .val (enc p), .emp, .emp]) := by simp [mkTup, aCons, aNil, vC, R.bind, Ln]
        simp only [toB, fBin, vGet, vC, List.getElem?_cons_succ, List.getElem?_cons_zero, R.bind_ok, enc_0, lft_some, e, in2', hs]
      · have hr : hgs (inn p) + 1 ≤ r := by have := hgs_mem hp; rw [hgs_inn] at this; omega
        have gp := List.all_eq_true.mp hg p hp
        have g2 : (inn p).all (goodP (d - 1)) = true := by
          cases p with
          | text s => rfl
          | field s => rfl
          | opt n qs => exact (good_parts (good_inn gp rfl rfl)).2.2.1
          | rep n s qs => exact (good_parts (good_inn gp rfl rfl)).2.2.1
        have e := law_many_spec fuel r (d - 1) (inn p) g2 hr
        have li := last_inn (d := d) p hb
        simp [fCallF, aaVal, aaNil, fBin, vGet, vC, fUn, dNeg, R.bind, lft, li, asOf, idxOf, e, putCs]
    have e3 : ∀ (k : Nat) (pr : Nat × Nat → Nat) (x : Sl), (∀ a b : Nat, vGet k [x, .val (.lst ((ps.filter fun p => !(inn p).isEmpty).map fun p => D.tup [.int (mcs (inn p)).1, .int (mcs (inn p)).2])), .emp, .val (.int a), .val (.int b)] = .ok (.int (pr (a, b)), [x, .val (.lst ((ps.filter fun p => !(inn p).isEmpty).map fun p => D.tup [.int (mcs (inn p)).1, .int (mcs (inn p)).2])), .emp, .val (.int a), .val (.int b)])) → lcD [3, 4] (gTupD 2 (gConsD (gSet 3) (gConsD (gSet 4) gNilD))) bYes (vGet k) ((ps.filter fun p => !(inn p).isEmpty).map fun p => D.tup [.int (mcs (inn p)).1, .int (mcs (inn p)).2]) [x, .val (.lst ((ps.filter fun p => !(inn p).isEmpty).map fun p => D.tup [.int (mcs (inn p)).1, .int (mcs (inn p)).2])), .emp, .emp, .emp]
        = .ok ((ps.filter fun p => !(inn p).isEmpty).map fun p => D.int (pr (mcs (inn p))), [x, .val (.lst ((ps.filter fun p => !(inn p).isEmpty).map fun p => D.tup [.int (mcs (inn p)).1, .int (mcs (inn p)).2])), .emp, .emp, .emp]) := fun k pr x hk => by
      generalize hq : ((ps.filter fun p => !(inn p).isEmpty).map fun p => D.tup [.int (mcs (inn p)).1, .int (mcs (inn p)).2]) = q at hk
      conv => lhs; arg 5; rw [← hq]
      exact lcD_map _ _ (by rfl) _ fun p hp => ⟨[x, .val (.lst q), .emp, .val (.int (mcs (inn p)).1), .val (.int (mcs (inn p)).2)], [x, .val (.lst q), .emp, .val (.int (mcs (inn p)).1), .val (.int (mcs (inn p)).2)], rfl, hk _ _, rfl⟩
    have a0 := e3 3 Prod.fst (.val (.tup (encs ps))) fun a b => rfl
    have a1 := e3 4 Prod.snd (.val (.tup (encs ps))) fun a b => rfl
    have s0 := intsD_map (fun p : Pt => ((mcs (inn p)).1 : Int)) (ps.filter fun p => !(inn p).isEmpty)
    have s1 := intsD_map (fun p : Pt => ((mcs (inn p)).2 : Int)) (ps.filter fun p => !(inn p).isEmpty)
    have c0 : ∀ (f : Pt → Nat) (l : List Pt), (l.map fun p => (f p : Int)).sum = ((l.map f).sum : Nat) := fun f l => by
      induction l with
      | nil => rfl
      | cons x l ih => simp [ih]
    have z0 := sum_sec (fun p => (mcs (inn p)).1) (fun p hp => by have : inn p = [] := by simpa using hp
                                                                  rw [this]; rfl) ps
    have z1 := sum_sec (fun p => (mcs (inn p)).2) (fun p hp => by have : inn p = [] := by simpa using hp
                                                                  rw [this]; rfl) ps
    have hl := encs_len ps
    rw [mcs_sum ps, ← z0, ← z1]
    generalize hq : ((ps.filter fun p => !(inn p).isEmpty).map fun p => D.tup [.int (mcs (inn p)).1, .int (mcs (inn p)).2]) = q at *
    have hql : q.length = (ps.filter fun p => !(inn p).isEmpty).length := by rw [← hq, List.length_map]
    have h2 : (2 : Nat) ≤ Ln := by decide
    simp only [← c0]
    simp [defD, ownIx, B_law_many, sSeq, sSetL, oLc, iSeq, vGet, R.bind, e1, dOf, toOut, sRet, mkTup, aCons, aNil, fBin, fCall, ofO, lft, dLen, hl, a0, a1, dSum, s0, s1, hql, add_int, h2, DL.finish, outsOf, List.replicate, ← c0]
/-! ### the law's template -/
theorem fCallF_ret {F : List Sl → Res} {fa : DS → R (List Ar × DS)} {ds ds' : DS} {l : List Ar} {as : List Sl} {d : D} {cs : List Ct} (h1 : fa ds = .ok (l, ds')) (h2 : asOf l ds' = some as) (h3 : (idxOf l).Nodup) (h4 : F as = .ret d cs) : fCallF F fa ds = .ok (d, putCs (idxOf l) cs ds') := by
  unfold fCallF
  rw [h1]
  simp only [R.bind_ok, h2, if_pos h3, h4]
theorem Gen.take {signs : List (List Nat)} {d : Nat} {l : List (List Nat)} {ps : List Pt} (h : Gen signs d l ps) : ∀ k, Gen signs d (l.take k) (ps.take k) := by
  induction h with
  | nil => intro k; simp; exact .nil
  | text hs _ ih => intro k; cases k with
    | zero => simp; exact .nil
    | succ k => simpa using .text hs (ih k)
  | field _ ih => intro k; cases k with
    | zero => simp; exact .nil
    | succ k => simpa using .field (ih k)
  | opt h1 h2 h3 _ _ ih => intro k; cases k with
    | zero => simp; exact .nil
    | succ k => simpa using .opt h1 h2 h3 (ih k)
  | rep h1 h2 h3 h4 h5 _ _ ih => intro k; cases k with
    | zero => simp; exact .nil
    | succ k => simpa using .rep h1 h2 h3 h4 h5 (ih k)
theorem ABCE_ok (k : Nat) : (∀ n ∈ ABCE.take k, overB n LET 1 4 = true) ∧ (ABCE.take k).Nodup ∧ (ABCE.take k).length ≤ 4 := by
  have h1 : (ABCE.take k).Sublist ABCE := List.take_sublist k ABCE
  refine ⟨fun n hn => ?_, h1.nodup (by decide), h1.length_le⟩
  have := h1.mem hn
  simp only [ABCE, List.mem_cons, List.not_mem_nil, or_false] at this
  rcases this with rfl | rfl | rfl | rfl <;> decide
/-- what the law's template maker gives -/
structure Tm (signs : List (List Nat)) (most : Nat) (ps : List Pt) : Prop where
  gen : ∃ d k, 1 ≤ d ∧ d ≤ 2 ∧ k ≤ most ∧ Gen signs d (ABCE.take k) ps
  pos : ps ≠ []
  cnt : (mcs ps).1 ≤ 10 ∧ (mcs ps).2 ≤ 4
theorem drop_last (l : List Pt) (h : l ≠ []) : dSl (.tup (encs l)) none (some (-1)) = some (.tup (encs (l.take (l.length - 1)))) := by
  have hl : 0 < l.length := List.length_pos_iff.mpr h
  show some (D.tup (cutD (encs l) none (some (-1)))) = _
  unfold cutD
  have e : HT.sIx (encs l).length (encs l).length (some (-1)) = l.length - 1 := by
    rw [encs_len]
    show HT.sIx l.length l.length (some (-1)) = _
    unfold HT.sIx
    simp
    omega
  rw [HT.sIx_none, e, List.drop_zero, Nat.sub_zero, encs_map, encs_map, List.map_take]
theorem tm_while {signs : List (List Nat)} {d : Nat} (hd : d ≤ 2) {ns : List Int} {t x2 x3 : Sl} (fuel : Nat) (hs : ∀ s ∈ signs, overB s LIT 1 6 = true ∧ overB s LIT 0 3 = true) : ∀ (m k : Nat) (ps : List Pt), ps.length < m → Gen signs d (ABCE.take k) ps →
    ∃ j, whileD (bOr (toB (fBin dGt (fBin dGetI (fCallF ((F_law_many 8) fuel) (aaVal (vGet 4) (aaNil))) (vC (.int 0))) (vC (.int 10)))) (toB (fBin dGt (fBin dGetI (fCallF ((F_law_many 8) fuel) (aaVal (vGet 4) (aaNil))) (vC (.int 1))) (vC (.int 4))))) (sAsg (fSl (vGet 4) oNone (oSome (fUn dNeg (vC (.int 1))))) (gSet 4)) m [.val (.scr ns), t, x2, x3, .val (.tup (encs ps))] = .nx [.val (.scr ns), t, x2, x3, .val (.tup (encs (ps.take j)))] ∧ (mcs (ps.take j)).1 ≤ 10 ∧ (mcs (ps.take j)).2 ≤ 4
  | 0, _, _, h, _ => by omega
  | m + 1, k, ps, h, hg => by
    obtain ⟨o1, o2, o3⟩ := ABCE_ok k
    have hh := hg.hgs
    have ga := hg.good hs o1 o2 (by omega)
    have em := law_many_spec fuel 8 d ps ga (by omega)
    have i0 : dGetI (.tup [.int ((mcs ps).1 : Int), .int ((mcs ps).2 : Int)]) (.int 0) = some (.int ((mcs ps).1 : Int)) := rfl
    have i1 : dGetI (.tup [.int ((mcs ps).1 : Int), .int ((mcs ps).2 : Int)]) (.int 1) = some (.int ((mcs ps).2 : Int)) := rfl
    by_cases h1 : 10 < (mcs ps).1 ∨ 4 < (mcs ps).2
    · have ne : ps ≠ [] := fun z => by subst z; revert h1; decide
      have hl : 0 < ps.length := List.length_pos_iff.mpr ne
      obtain ⟨j, e, r1, r2⟩ := tm_while (t := t) (x2 := x2) (x3 := x3) (ns := ns) hd fuel hs m (min (ps.length - 1) k) (ps.take (ps.length - 1)) (by rw [List.length_take]; omega) (by rw [← List.take_take]; exact hg.take (ps.length - 1))
      refine ⟨min j (ps.length - 1), ?_, by rw [List.take_take] at r1; exact r1, by rw [List.take_take] at r2; exact r2⟩
      rw [List.take_take] at e
      rw [whileD]
      have tt : bOr (toB (fBin dGt (fBin dGetI (fCallF ((F_law_many 8) fuel) (aaVal (vGet 4) (aaNil))) (vC (.int 0))) (vC (.int 10)))) (toB (fBin dGt (fBin dGetI (fCallF ((F_law_many 8) fuel) (aaVal (vGet 4) (aaNil))) (vC (.int 1))) (vC (.int 4)))) [.val (.scr ns), t, x2, x3, .val (.tup (encs ps))] = .ok (true, [.val (.scr ns), t, x2, x3, .val (.tup (encs ps))]) := by
        by_cases h2 : 10 < (mcs ps).1
        · have h2' : (10 : Int) < ((mcs ps).1 : Int) := by omega
          simp [bOr, toB, fBin, fCallF, aaVal, aaNil, vGet, vC, R.bind, lft, asOf, idxOf, em, putCs, i0, dGt, h2']
        · have h2' : ¬ (10 : Int) < ((mcs ps).1 : Int) := by omega
          have h3' : (4 : Int) < ((mcs ps).2 : Int) := by omega
          simp [bOr, toB, fBin, fCallF, aaVal, aaNil, vGet, vC, R.bind, lft, asOf, idxOf, em, putCs, i0, i1, dGt, h2', h3']
      have dl := drop_last ps ne
      rw [tt]
      simp only [toOut_ok, if_true]
      have bd : (sAsg (fSl (vGet 4) oNone (oSome (fUn dNeg (vC (.int 1))))) (gSet 4)) [.val (.scr ns), t, x2, x3, .val (.tup (encs ps))] = .nx [.val (.scr ns), t, x2, x3, .val (.tup (encs (ps.take (ps.length - 1))))] := by
        simp [sAsg, fSl, oNone, oSome, fUn, dNeg, vGet, vC, R.bind, lft, dl, toOut, gSet_app]
      rw [bd, loopK, e]
    · refine ⟨ps.length, ?_, by rw [List.take_length]; omega, by rw [List.take_length]; omega⟩
      rw [List.take_length, whileD]
      have h2' : ¬ (10 : Int) < ((mcs ps).1 : Int) := by omega
      have h3' : ¬ (4 : Int) < ((mcs ps).2 : Int) := by omega
      simp [bOr, toB, fBin, fCallF, aaVal, aaNil, vGet, vC, R.bind, lft, asOf, idxOf, em, putCs, i0, i1, dGt, h2', h3', toOut]
theorem law_template_spec (fuel : Nat) (hfu : 6 ≤ fuel) (ns : List Int) {signs : List (List Nat)} (hsg : signs ≠ []) (hsl : signs.length < 1000) (hs : ∀ s ∈ signs, overB s LIT 1 6 = true ∧ overB s LIT 0 3 = true) (most : Nat) (hm : 0 < most) (hm4 : most ≤ 4) (t : Sl) (ht : Tw t) :
    ∃ (ps : List Pt) (c : Ct), F_law_template fuel [.val (.scr ns), t, .val (.int most), .val (.lst (signs.map .str))] = .ret (.tup (encs ps)) [c] ∧ Tm signs most ps ∧ Tw (.own c) := by
  obtain ⟨q, t1, e1, hq, ht1⟩ := call_draw (fuel := fuel) (ns := ns) (t := t) (rest := [.val (.int most), .val (.lst (signs.map .str)), .emp]) (fm := vC (.int 2)) (m := 2) rfl (by decide) (by decide) ht
  obtain ⟨k, ps, c, e2, hk, hg, hc⟩ := law_parts_spec fuel ns hsg hsl 8 (1 + q) (by omega) (by omega) most hm hm4 t1 ht1
  have hlen := hg.length
  obtain ⟨_, _, o3⟩ := ABCE_ok (1 + k)
  obtain ⟨j, e3, c1, c2⟩ := tm_while (t := .own c) (x2 := .val (.int most)) (x3 := .val (.lst (signs.map .str))) (ns := ns) (d := 1 + q) (by omega) fuel hs fuel (1 + k) ps (by omega) hg
  have hgj := hg.take j
  have hh := hgj.hgs
  obtain ⟨a, z, rfl, hz1, hz2⟩ := ht
  obtain ⟨a1, z1, rfl, w1, w2⟩ := ht1
  have e1' : fCallF (F_law_draw fuel) (aaVal (vGet 0) (aaOwn 1 (aaVal (vC (.int 2)) aaNil))) [.val (.scr ns), .own (.l [.int a, .int z]), .val (.int most), .val (.lst (signs.map .str)), .emp] = _ := e1
  have en : dNe (.tup (encs (ps.take j))) (.tup []) = some (.bl (!(ps.take j).isEmpty)) := ne_tup0 _ (by omega)
  have cd : ((1 + q : Nat) : Int) = 1 + (q : Int) := by omega
  rw [cd] at e2
  have h1l : (1 : Nat) ≤ Ln := by decide
  have h2l : (2 : Nat) ≤ Ln := by decide
  have main : F_law_template fuel [.val (.scr ns), .own (.l [.int a, .int z]), .val (.int most), .val (.lst (signs.map .str))] = .ret (if (!(ps.take j).isEmpty) = true then .tup (encs (ps.take j)) else .tup [.tup [.str kF, .str [97]]]) [c] := by
    have s1 : fCallF ((F_law_parts 8) fuel) (aaVal (vGet 0) (aaOwn 1 (aaVal (fBin dAdd (vC (.int 1)) (fCallF (F_law_draw fuel) (aaVal (vGet 0) (aaOwn 1 (aaVal (vC (.int 2)) (aaNil)))))) (aaVal (vGet 2) (aaVal (vGet 3) (aaNil)))))) [.val (.scr ns), .own (.l [.int a, .int z]), .val (.int most), .val (.lst (signs.map .str)), .emp] = .ok (.tup (encs ps), [.val (.scr ns), .own c, .val (.int most), .val (.lst (signs.map .str)), .emp]) := by
      have fa : aaVal (vGet 0) (aaOwn 1 (aaVal (fBin dAdd (vC (.int 1)) (fCallF (F_law_draw fuel) (aaVal (vGet 0) (aaOwn 1 (aaVal (vC (.int 2)) (aaNil)))))) (aaVal (vGet 2) (aaVal (vGet 3) (aaNil))))) [.val (.scr ns), .own (.l [.int a, .int z]), .val (.int most), .val (.lst (signs.map .str)), .emp] = .ok ([.v (.scr ns), .o 1, .v (.int (1 + (q : Int))), .v (.int most), .v (.lst (signs.map .str))], [.val (.scr ns), .own (.l [.int a1, .int z1]), .val (.int most), .val (.lst (signs.map .str)), .emp]) := by
        generalize fCallF (F_law_draw fuel) (aaVal (vGet 0) (aaOwn 1 (aaVal (vC (.int 2)) aaNil))) = g at e1'
        simp [aaVal, aaOwn, aaNil, fBin, vGet, vC, R.bind, lft, e1', add_int]
      exact fCallF_ret fa rfl (by simp [idxOf]) e2
    show defD [1] 5 B_law_template fuel [.val (.scr ns), .own (.l [.int a, .int z]), .val (.int most), .val (.lst (signs.map .str))] = _
    have st : B_law_template fuel [.val (.scr ns), .own (.l [.int a, .int z]), .val (.int most), .val (.lst (signs.map .str)), .emp] = .rt (if (!(ps.take j).isEmpty) = true then .tup (encs (ps.take j)) else .tup [.tup [.str kF, .str [97]]]) [.val (.scr ns), .own c, .val (.int most), .val (.lst (signs.map .str)), .val (.tup (encs (ps.take j)))] := by
      rw [B_law_template, sSeq_nx (ds' := [.val (.scr ns), .own c, .val (.int most), .val (.lst (signs.map .str)), .val (.tup (encs ps))]) (by unfold sAsg; rw [s1]; rfl), sSeq_nx e3]
      generalize (ps.take j).isEmpty = be at en ⊢
      cases be <;> simp [sRet, fIf, toB, fBin, vGet, vC, mkTup, aCons, aNil, R.bind, lft, en, h1l, h2l, toOut, kF]
    simp [defD, ownIx, List.replicate, st, DL.finish, outsOf]
  cases he : (ps.take j).isEmpty with
  | true =>
    refine ⟨[.field [97]], c, ?_, ⟨⟨1, 1, by decide, by decide, hm, .field .nil⟩, by simp, by decide⟩, hc⟩
    rw [main, he]
    rfl
  | false =>
    refine ⟨ps.take j, c, ?_, ⟨⟨1 + q, min j (1 + k), by omega, by omega, by omega, by rw [← List.take_take]; exact hgj⟩, by simpa using he, c1, c2⟩, hc⟩
    rw [main, he]
    rfl
/-! ### rows of characters and places; two templates that agree on small records agree on all -/
inductive Sg where | i (n : Nat) | s (l : List Nat) deriving DecidableEq
inductive El where | ch (c : Nat) | mk (p : List Sg) deriving DecidableEq
abbrev As := List Nat → Option Rv
def recOf : Rv → List (List Nat × Rv)
  | .obj q => q
  | _ => []
def look (x : Rv) : As := fun k => (recOf x).lookup k
def items (f : Rv → Nat → List El) (s : List El) : Nat → List Rv → List El
  | _, [] => []
  | i, x :: xs => (if 0 < i then s else []) ++ f x i ++ items f s (i + 1) xs
mutual
def rowP : Pt → As → List Sg → List El
  | .text s, _, _ => s.map .ch
  | .field n, _, π => [.mk (π ++ [.s n])]
  | .opt n ps, ρ, π => match ρ n with
    | some (.obj q) => rowPs ps (look (.obj q)) (π ++ [.s n])
    | _ => []
  | .rep n s ps, ρ, π => match ρ n with
    | some (.recs rs) => items (fun x i => rowPs ps (look x) (π ++ [.s n, .i i])) (s.map .ch) 0 rs
    | _ => []
def rowPs : List Pt → As → List Sg → List El
  | [], _, _ => []
  | p :: ps, ρ, π => rowP p ρ π ++ rowPs ps ρ π
end
mutual
def InV (W : List Nat → Prop) (M : Nat → Prop) : Pt → Rv → Prop
  | .text _, _ => False
  | .field _, v => ∃ s, v = .word s ∧ W s
  | .opt _ ps, v => v = .none ∨ ∃ r, v = .obj r ∧ InR W M ps (look (.obj r))
  | .rep _ _ ps, v => ∃ rs, v = .recs rs ∧ M rs.length ∧ ∀ x ∈ rs, ∃ r, x = .obj r ∧ InR W M ps (look (.obj r))
def InR (W : List Nat → Prop) (M : Nat → Prop) : List Pt → As → Prop
  | [], _ => True
  | p :: ps, ρ => (isText p = false → ∃ v, ρ (nm p) = some v ∧ InV W M p v) ∧ InR W M ps ρ
end
def W1 (s : List Nat) : Prop := s = [97]
def M2 (n : Nat) : Prop := n ≤ 2
def WA (_ : List Nat) : Prop := True
def MA (_ : Nat) : Prop := True
theorem InR.mem {W : List Nat → Prop} {M : Nat → Prop} : ∀ {ps : List Pt} {ρ : As}, InR W M ps ρ → ∀ p ∈ ps, isText p = false → ∃ v, ρ (nm p) = some v ∧ InV W M p v
  | [], _, _, p, h, _ => by simp at h
  | q :: ps, ρ, f, p, h, ht => by
    rw [InR] at f
    rcases List.mem_cons.mp h with rfl | h
    · exact f.1 ht
    · exact InR.mem f.2 p h ht
theorem InR.mk {W : List Nat → Prop} {M : Nat → Prop} : ∀ {ps : List Pt} {ρ : As}, (∀ p ∈ ps, isText p = false → ∃ v, ρ (nm p) = some v ∧ InV W M p v) → InR W M ps ρ
  | [], _, _ => by rw [InR]; trivial
  | q :: ps, ρ, f => by
    rw [InR]
    exact ⟨f q List.mem_cons_self, InR.mk fun p hp => f p (List.mem_cons_of_mem _ hp)⟩
theorem mem_names {p : Pt} {ps : List Pt} (h : p ∈ ps) (ht : isText p = false) : nm p ∈ names ps := by
  unfold names named
  exact List.mem_map_of_mem (List.mem_filter.mpr ⟨h, by simp [ht]⟩)
theorem of_names {n : List Nat} {ps : List Pt} (h : n ∈ names ps) : ∃ p ∈ ps, isText p = false ∧ nm p = n := by
  unfold names named at h
  obtain ⟨p, hp, e⟩ := List.mem_map.mp h
  obtain ⟨h1, h2⟩ := List.mem_filter.mp hp
  exact ⟨p, h1, by simpa using h2, e⟩
theorem InR.congr {W : List Nat → Prop} {M : Nat → Prop} {ps : List Pt} {ρ ρ' : As} (h : InR W M ps ρ) (e : ∀ n ∈ names ps, ρ n = ρ' n) : InR W M ps ρ' :=
  InR.mk fun p hp ht => by
    obtain ⟨v, e1, h1⟩ := h.mem p hp ht
    exact ⟨v, by rw [← e _ (mem_names hp ht)]; exact e1, h1⟩
theorem rowP_congr {ρ ρ' : As} {π : List Sg} (p : Pt) (h : isText p = false → ρ (nm p) = ρ' (nm p)) : rowP p ρ π = rowP p ρ' π := by
  cases p with
  | text s => simp [rowP]
  | field n => simp [rowP]
  | opt n ps => have := h rfl; simp only [nm] at this; simp only [rowP, this]
  | rep n s ps => have := h rfl; simp only [nm] at this; simp only [rowP, this]
theorem rowPs_congr {ρ ρ' : As} {π : List Sg} : ∀ (ps : List Pt), (∀ n ∈ names ps, ρ n = ρ' n) → rowPs ps ρ π = rowPs ps ρ' π
  | [], _ => by simp [rowPs]
  | p :: ps, h => by
    rw [rowPs, rowPs, rowP_congr p fun ht => h _ (mem_names List.mem_cons_self ht), rowPs_congr ps fun n hn => h n (by rw [names_cons]; split; exact hn; exact List.mem_cons_of_mem _ hn)]
theorem rowPs_app {ρ : As} {π : List Sg} : ∀ (a b : List Pt), rowPs (a ++ b) ρ π = rowPs a ρ π ++ rowPs b ρ π
  | [], b => by simp [rowPs]
  | p :: a, b => by rw [List.cons_append, rowPs, rowPs, rowPs_app a b, List.append_assoc]
/-! marks -/
def addp (π : List Sg) : El → El
  | .ch c => .ch c
  | .mk p => .mk (π ++ p)
theorem items_map (g : El → El) (f : Rv → Nat → List El) (s : List El) : ∀ (xs : List Rv) (i : Nat), (items f s i xs).map g = items (fun x i => (f x i).map g) (s.map g) i xs
  | [], _ => rfl
  | x :: xs, i => by
    rw [items, items, List.map_append, List.map_append, items_map g f s xs (i + 1)]
    split <;> simp
theorem items_congr (f g : Rv → Nat → List El) (s : List El) : ∀ (xs : List Rv) (i : Nat), (∀ x ∈ xs, ∀ j, f x j = g x j) → items f s i xs = items g s i xs
  | [], _, _ => rfl
  | x :: xs, i, h => by rw [items, items, h x List.mem_cons_self i, items_congr f g s xs (i + 1) fun y hy => h y (List.mem_cons_of_mem _ hy)]
theorem addp_ch (π : List Sg) (s : List Nat) : (s.map El.ch).map (addp π) = s.map El.ch := by
  rw [List.map_map]; rfl
theorem row_pre : ∀ n : Nat, (∀ (ps : List Pt) (ρ : As) (π σ : List Sg), hgs ps ≤ n → rowPs ps ρ (π ++ σ) = (rowPs ps ρ σ).map (addp π)) := by
  intro n
  have lift : (∀ (p : Pt) (ρ : As) (π σ : List Sg), hgP p + 1 ≤ n → rowP p ρ (π ++ σ) = (rowP p ρ σ).map (addp π)) → (∀ (ps : List Pt) (ρ : As) (π σ : List Sg), hgs ps ≤ n → rowPs ps ρ (π ++ σ) = (rowPs ps ρ σ).map (addp π)) := fun h ps ρ π σ => by
    induction ps with
    | nil => intro _; simp [rowPs]
    | cons p ps ih =>
      intro hl
      rw [hgs] at hl
      rw [rowPs, rowPs, List.map_append, h p ρ π σ (by omega), ih (by omega)]
  induction n with
  | zero => exact lift fun p ρ π σ h => by omega
  | succ n ih =>
    refine lift fun p ρ π σ h => ?_
    have ih := ih (fun h ps ρ π σ hl => by
      induction ps with
      | nil => simp [rowPs]
      | cons p ps ih =>
        rw [hgs] at hl
        rw [rowPs, rowPs, List.map_append, h p ρ π σ (by omega), ih (by omega)])
    cases p with
    | text s => simp only [rowP]; rw [addp_ch]
    | field n => simp [rowP, addp]
    | opt m ps =>
      rw [rowP, rowP]
      have e := fun q : List (List Nat × Rv) => ih ps (look (.obj q)) π (σ ++ [.s m]) (by simp only [hgP] at h; omega)
      split
      · rw [← e, List.append_assoc]
      · rfl
    | rep m s ps =>
      rw [rowP, rowP]
      have e := fun (x : Rv) (i : Nat) => ih ps (look x) π (σ ++ [.s m, .i i]) (by simp only [hgP] at h; omega)
      split
      · rw [items_map, addp_ch]
        exact items_congr _ _ _ _ _ fun x _ j => by rw [← e, List.append_assoc]
      · rfl
theorem row_at (ps : List Pt) (ρ : As) (π : List Sg) : rowPs ps ρ π = (rowPs ps ρ []).map (addp π) := by
  have := row_pre (hgs ps) ps ρ π [] (Nat.le_refl _)
  rwa [List.append_nil] at this
def isMk : El → Bool
  | .ch _ => false
  | .mk _ => true
def pfx (π : List Sg) : El → Bool
  | .ch _ => false
  | .mk p => decide (π <+: p)
def Free (π : List Sg) (l : List El) : Prop := ∀ e ∈ l, pfx π e = false
theorem Free.app {π : List Sg} {a b : List El} (h : Free π a) (k : Free π b) : Free π (a ++ b) := fun e he => (List.mem_append.mp he).elim (h e) (k e)
theorem Free.deep {π σ : List Sg} {a : List El} (h : Free π a) : Free (π ++ σ) a := fun e he => by
  have := h e he
  cases e with
  | ch c => rfl
  | mk p =>
    simp only [pfx, decide_eq_false_iff_not] at this ⊢
    exact fun z => this ((List.prefix_append π σ).trans z)
theorem Free.chs {π : List Sg} {a : List El} (h : ∀ e ∈ a, isMk e = false) : Free π a := fun e he => by
  have := h e he
  cases e with
  | ch c => rfl
  | mk p => simp [isMk] at this
theorem row_marks : ∀ n : Nat, ∀ (ps : List Pt) (ρ : As) (π : List Sg), hgs ps ≤ n → ∀ p, .mk p ∈ rowPs ps ρ π → ∃ m ∈ names ps, (π ++ [.s m]) <+: p := by
  intro n
  induction n with
  | zero =>
    intro ps ρ π h p hp
    cases ps with
    | nil => simp [rowPs] at hp
    | cons q ps => rw [hgs] at h; omega
  | succ n ih =>
    intro ps ρ π h p hp
    induction ps with
    | nil => simp [rowPs] at hp
    | cons q ps ihp =>
      rw [hgs] at h
      rw [rowPs] at hp
      rcases List.mem_append.mp hp with hp | hp
      · cases q with
        | text s => simp [rowP] at hp
        | field m =>
          simp only [rowP, List.mem_singleton, El.mk.injEq] at hp
          exact ⟨m, mem_names (p := .field m) List.mem_cons_self rfl, by rw [hp]; exact List.prefix_refl _⟩
        | opt m qs =>
          rw [rowP] at hp
          split at hp
          · obtain ⟨_, _, z⟩ := ih qs _ _ (by simp only [hgP] at h; omega) p hp
            exact ⟨m, mem_names (p := .opt m qs) List.mem_cons_self rfl, (List.prefix_append _ _).trans z⟩
          · simp at hp
        | rep m s qs =>
          rw [rowP] at hp
          split at hp
          · have key : ∀ (xs : List Rv) (i : Nat), .mk p ∈ items (fun x i => rowPs qs (look x) (π ++ [.s m, .i i])) (s.map .ch) i xs → ∃ x j, .mk p ∈ rowPs qs (look x) (π ++ [.s m, .i j]) := fun xs => by
              induction xs with
              | nil => intro i z; simp [items] at z
              | cons x xs ihx =>
                intro i z
                rw [items] at z
                rcases List.mem_append.mp z with z | z
                · rcases List.mem_append.mp z with z | z
                  · split at z <;> simp at z
                  · exact ⟨x, i, z⟩
                · exact ihx _ z
            obtain ⟨x, j, z⟩ := key _ _ hp
            obtain ⟨k, _, z⟩ := ih qs _ _ (by simp only [hgP] at h; omega) p z
            refine ⟨m, mem_names (p := .rep m s qs) List.mem_cons_self rfl, List.IsPrefix.trans ?_ z⟩
            exact ⟨[.i j, .s k], by simp⟩
          · simp at hp
      · obtain ⟨m, hm, z⟩ := ihp (by omega) hp
        exact ⟨m, by rw [names_cons]; split; exact hm; exact List.mem_cons_of_mem _ hm, z⟩
theorem free_row {ps : List Pt} {ρ : As} {π : List Sg} {n : List Nat} (h : n ∉ names ps) : Free (π ++ [.s n]) (rowPs ps ρ π) := fun e he => by
  cases e with
  | ch c => rfl
  | mk p =>
    obtain ⟨m, hm, z⟩ := row_marks (hgs ps) ps ρ π (Nat.le_refl _) p he
    simp only [pfx, decide_eq_false_iff_not]
    intro y
    have : π ++ [.s n] = π ++ [.s m] := (List.prefix_of_prefix_length_le y z (by simp)).eq_of_length (by simp)
    simp at this
    subst this
    exact h hm
theorem row_has : ∀ {ps : List Pt} {ρ : As} {π : List Sg}, ps.any isField = true → ∃ e ∈ rowPs ps ρ π, isMk e = true
  | [], _, _, h => by simp at h
  | p :: ps, ρ, π, h => by
    rw [rowPs]
    rw [List.any_cons, Bool.or_eq_true] at h
    rcases h with h | h
    · cases p with
      | field n => exact ⟨.mk (π ++ [.s n]), by simp [rowP], rfl⟩
      | text s => simp [isField] at h
      | opt n q => simp [isField] at h
      | rep n s q => simp [isField] at h
    · obtain ⟨e, he, k⟩ := row_has (ρ := ρ) (π := π) h
      exact ⟨e, List.mem_append_right _ he, k⟩
/-! one way to cut -/
theorem cut1 {P : El → Bool} : ∀ {U U' X X' : List El} {a a' : El}, (∀ e ∈ U, P e = false) → (∀ e ∈ U', P e = false) → P a = true → P a' = true → U ++ a :: X = U' ++ a' :: X' → U = U' ∧ a :: X = a' :: X'
  | [], [], X, X', a, a', _, _, _, _, h => ⟨rfl, h⟩
  | [], u :: U', X, X', a, a', _, hU', ha, _, h => by
    have : a = u := by simpa using congrArg (·.head?) h
    rw [this, hU' u List.mem_cons_self] at ha
    cases ha
  | u :: U, [], X, X', a, a', hU, _, _, ha', h => by
    have : u = a' := by simpa using congrArg (·.head?) h
    rw [← this, hU u List.mem_cons_self] at ha'
    cases ha'
  | u :: U, u' :: U', X, X', a, a', hU, hU', ha, ha', h => by
    rw [List.cons_append, List.cons_append, List.cons.injEq] at h
    obtain ⟨e1, e2⟩ := cut1 (fun e he => hU e (List.mem_cons_of_mem _ he)) (fun e he => hU' e (List.mem_cons_of_mem _ he)) ha ha' h.2
    exact ⟨by rw [h.1, e1], e2⟩
structure Core (P : El → Bool) (K : List El) : Prop where
  hd : ∃ a x, K = a :: x ∧ P a = true
  tl : ∃ b y, K.reverse = b :: y ∧ P b = true
theorem cut {P : El → Bool} {U U' K K' T T' : List El} (hU : ∀ e ∈ U, P e = false) (hU' : ∀ e ∈ U', P e = false) (hT : ∀ e ∈ T, P e = false) (hT' : ∀ e ∈ T', P e = false) (hK : Core P K) (hK' : Core P K') (h : U ++ (K ++ T) = U' ++ (K' ++ T')) : U = U' ∧ K = K' ∧ T = T' := by
  obtain ⟨a, x, e1, p1⟩ := hK.hd
  obtain ⟨a', x', e1', p1'⟩ := hK'.hd
  have h1 : U ++ a :: (x ++ T) = U' ++ a' :: (x' ++ T') := by rw [e1, e1'] at h; exact h
  obtain ⟨eU, h2⟩ := cut1 hU hU' p1 p1' h1
  have h3 : K ++ T = K' ++ T' := by rw [e1, e1']; exact h2
  obtain ⟨b, y, e2, p2⟩ := hK.tl
  obtain ⟨b', y', e2', p2'⟩ := hK'.tl
  have h4 : T.reverse ++ b :: y = T'.reverse ++ b' :: y' := by
    have := congrArg List.reverse h3
    rwa [List.reverse_append, List.reverse_append, e2, e2'] at this
  obtain ⟨eT, h5⟩ := cut1 (fun e he => hT e (List.mem_reverse.mp he)) (fun e he => hT' e (List.mem_reverse.mp he)) p2 p2' h4
  refine ⟨eU, ?_, List.reverse_inj.mp eT⟩
  rw [← e2, ← e2'] at h5
  exact List.reverse_inj.mp h5
def fstM : List El → List El × List El
  | [] => ([], [])
  | e :: l => if isMk e = true then ([], e :: l) else (e :: (fstM l).1, (fstM l).2)
theorem fstM_app : ∀ l : List El, (fstM l).1 ++ (fstM l).2 = l
  | [] => rfl
  | e :: l => by rw [fstM]; split <;> simp [fstM_app l]
theorem fstM_no : ∀ l : List El, ∀ e ∈ (fstM l).1, isMk e = false
  | [], e, h => by simp [fstM] at h
  | x :: l, e, h => by
    rw [fstM] at h
    split at h
    · simp at h
    · rename_i hx
      rcases List.mem_cons.mp h with rfl | h
      · simpa using hx
      · exact fstM_no l e h
theorem fstM_hd : ∀ l : List El, (∃ e ∈ l, isMk e = true) → ∃ a x, (fstM l).2 = a :: x ∧ isMk a = true
  | [], h => by simp at h
  | x :: l, h => by
    rw [fstM]
    split
    · rename_i hx; exact ⟨x, l, rfl, hx⟩
    · rename_i hx
      obtain ⟨e, he, k⟩ := h
      rcases List.mem_cons.mp he with rfl | he
      · exact absurd k hx
      · exact fstM_hd l ⟨e, he, k⟩
def pA (l : List El) : List El := (fstM l).1
def pB (l : List El) : List El := (fstM (fstM l).2.reverse).1.reverse
def pC (l : List El) : List El := (fstM (fstM l).2.reverse).2.reverse
theorem pABC (l : List El) : pA l ++ (pC l ++ pB l) = l := by
  unfold pA pB pC
  rw [← List.reverse_append, fstM_app, List.reverse_reverse, fstM_app]
theorem pA_no (l : List El) : ∀ e ∈ pA l, isMk e = false := fstM_no l
theorem pB_no (l : List El) : ∀ e ∈ pB l, isMk e = false := fun e he => fstM_no _ e (List.mem_reverse.mp he)
theorem pC_core (l : List El) (h : ∃ e ∈ l, isMk e = true) : Core isMk (pC l) := by
  obtain ⟨a, x, e1, k1⟩ := fstM_hd l h
  have hr : ∃ e ∈ (fstM l).2.reverse, isMk e = true := ⟨a, by rw [e1]; simp, k1⟩
  obtain ⟨b, y, e2, k2⟩ := fstM_hd _ hr
  refine ⟨?_, ⟨b, y, by unfold pC; rw [List.reverse_reverse, e2], k2⟩⟩
  have happ : pC l ++ pB l = a :: x := by
    unfold pC pB
    rw [← List.reverse_append, fstM_app, List.reverse_reverse, e1]
  cases hc : pC l with
  | nil =>
    have := e2
    unfold pC at hc
    rw [e2] at hc
    simp at hc
  | cons c z =>
    rw [hc, List.cons_append, List.cons.injEq] at happ
    exact ⟨c, z, rfl, by rw [happ.1]; exact k1⟩
theorem map_chs {π : List Sg} : ∀ {l : List El}, (∀ e ∈ l, isMk e = false) → l.map (addp π) = l
  | [], _ => rfl
  | e :: l, h => by
    rw [List.map_cons, map_chs fun x hx => h x (List.mem_cons_of_mem _ hx)]
    have := h e List.mem_cons_self
    cases e with
    | ch c => rfl
    | mk p => simp [isMk] at this
theorem pfx_addp (π : List Sg) (e : El) (h : isMk e = true) : pfx π (addp π e) = true := by
  cases e with
  | ch c => simp [isMk] at h
  | mk p => simp [pfx, addp, List.prefix_append]
theorem core_map {π : List Sg} {K : List El} (h : Core isMk K) : Core (pfx π) (K.map (addp π)) := by
  obtain ⟨a, x, e1, p1⟩ := h.hd
  obtain ⟨b, y, e2, p2⟩ := h.tl
  exact ⟨⟨addp π a, x.map (addp π), by rw [e1]; rfl, pfx_addp π a p1⟩, ⟨addp π b, y.map (addp π), by rw [← List.map_reverse, e2]; rfl, pfx_addp π b p2⟩⟩
theorem addp_inj {π : List Sg} : ∀ {a b : List El}, a.map (addp π) = b.map (addp π) → a = b
  | [], [], _ => rfl
  | [], _ :: _, h => by simp at h
  | _ :: _, [], h => by simp at h
  | x :: a, y :: b, h => by
    rw [List.map_cons, List.map_cons, List.cons.injEq] at h
    rw [addp_inj h.2]
    congr 1
    have := h.1
    cases x <;> cases y <;> simp [addp] at this ⊢ <;> exact this
theorem free_other {π : List Sg} {n : List Nat} {i j : Nat} (h : i ≠ j) (l : List El) : Free (π ++ [.s n, .i i]) (l.map (addp (π ++ [.s n, .i j]))) := fun e he => by
  obtain ⟨x, _, rfl⟩ := List.mem_map.mp he
  cases x with
  | ch c => rfl
  | mk p =>
    simp only [addp, pfx, decide_eq_false_iff_not]
    intro z
    have e : π ++ [.s n, .i i] = π ++ [.s n, .i j] := (List.prefix_of_prefix_length_le z (List.prefix_append (π ++ [.s n, .i j]) p) (by simp)).eq_of_length (by simp)
    simp at e
    exact h e
/-! assignments and records -/
def toRec (l : List (List Nat)) (ρ : As) : List (List Nat × Rv) := l.map fun n => (n, (ρ n).getD .none)
theorem toRec_lookup (ρ : As) : ∀ (l : List (List Nat)) (n : List Nat), n ∈ l → (∃ v, ρ n = some v) → (toRec l ρ).lookup n = ρ n
  | [], n, h, _ => by simp at h
  | m :: l, n, h, hv => by
    unfold toRec
    rw [List.map_cons, List.lookup_cons]
    by_cases e : n = m
    · subst e
      obtain ⟨v, hv⟩ := hv
      simp [hv]
    · have : (n == m) = false := by simpa using e
      rw [this]
      exact toRec_lookup ρ l n ((List.mem_cons.mp h).resolve_left e) hv
def updA (ρ : As) (n : List Nat) (v : Rv) : As := fun m => if m = n then some v else ρ m
/-- two templates with the same fields and sections, nested at most so deep -/
def Alk : Nat → List Pt → List Pt → Prop
  | 0, _, _ => False
  | k + 1, t, o => (names t).Nodup ∧ (names o).Nodup ∧ (∀ p ∈ t, isText p = false → ∃ q ∈ o, nm q = nm p ∧ kind q = kind p ∧ (isField p = false → Alk k (inn p) (inn q)) ∧ (kind p = kE → (inn p).any isField = true ∧ (inn q).any isField = true))
    ∧ ∀ q ∈ o, isText q = false → ∃ p ∈ t, isText p = false ∧ nm p = nm q
theorem InV.mono : ∀ n : Nat, (∀ p v, hgP p ≤ n → InV W1 M2 p v → InV WA MA p v) := by
  intro n
  induction n with
  | zero =>
    intro p v h hv
    cases p with
    | text s => rw [InV] at hv; exact hv.elim
    | field m => rw [InV] at hv ⊢; exact ⟨hv.choose, hv.choose_spec.1, trivial⟩
    | opt m ps =>
      rw [InV] at hv ⊢
      refine hv.imp id fun ⟨r, e, hr⟩ => ⟨r, e, InR.mk fun p hp ht => ?_⟩
      have := hgs_mem hp
      simp only [hgP] at h; omega
    | rep m s ps =>
      rw [InV] at hv ⊢
      obtain ⟨rs, e, _, hr⟩ := hv
      refine ⟨rs, e, trivial, fun x hx => ?_⟩
      obtain ⟨r, e, hr⟩ := hr x hx
      refine ⟨r, e, InR.mk fun p hp ht => ?_⟩
      have := hgs_mem hp
      simp only [hgP] at h; omega
  | succ n ih =>
    intro p v h hv
    cases p with
    | text s => rw [InV] at hv; exact hv.elim
    | field m => rw [InV] at hv ⊢; exact ⟨hv.choose, hv.choose_spec.1, trivial⟩
    | opt m ps =>
      rw [InV] at hv ⊢
      refine hv.imp id fun ⟨r, e, hr⟩ => ⟨r, e, InR.mk fun p hp ht => ?_⟩
      have := hgs_mem hp
      obtain ⟨u, e1, hu⟩ := hr.mem p hp ht
      exact ⟨u, e1, ih p u (by simp only [hgP] at h; omega) hu⟩
    | rep m s ps =>
      rw [InV] at hv ⊢
      obtain ⟨rs, e, _, hr⟩ := hv
      refine ⟨rs, e, trivial, fun x hx => ?_⟩
      obtain ⟨r, e, hr⟩ := hr x hx
      refine ⟨r, e, InR.mk fun p hp ht => ?_⟩
      have := hgs_mem hp
      obtain ⟨u, e1, hu⟩ := hr.mem p hp ht
      exact ⟨u, e1, ih p u (by simp only [hgP] at h; omega) hu⟩
theorem InR.mono {ps : List Pt} {ρ : As} (h : InR W1 M2 ps ρ) : InR WA MA ps ρ := InR.mk fun p hp ht => by
  obtain ⟨v, e, hv⟩ := h.mem p hp ht
  exact ⟨v, e, InV.mono _ p v (Nat.le_refl _) hv⟩
/-- the claim for lists of parts -/
def Cl (t o : List Pt) : Prop := ∀ (π : List Sg) (A B A' B' : List El), Free π A → Free π B → Free π A' → Free π B' → (∀ ρ, InR W1 M2 t ρ → A ++ (rowPs t ρ π ++ B) = A' ++ (rowPs o ρ π ++ B')) → ∀ ρ, InR WA MA t ρ → A ++ (rowPs t ρ π ++ B) = A' ++ (rowPs o ρ π ++ B')
/-- from what holds of records to what holds of assignments -/
theorem of_recs {t o : List Pt} (hn : ∀ n ∈ names o, n ∈ names t) {π : List Sg} {A B A' B' : List El} (h : ∀ r : List (List Nat × Rv), InR W1 M2 t (look (.obj r)) → A ++ (rowPs t (look (.obj r)) π ++ B) = A' ++ (rowPs o (look (.obj r)) π ++ B')) : ∀ ρ, InR W1 M2 t ρ → A ++ (rowPs t ρ π ++ B) = A' ++ (rowPs o ρ π ++ B') := fun ρ hρ => by
  have e : ∀ n ∈ names t, ρ n = look (.obj (toRec (names t) ρ)) n := fun n hm => by
    obtain ⟨p, hp, ht, en⟩ := of_names hm
    obtain ⟨v, ev, _⟩ := hρ.mem p hp ht
    rw [en] at ev
    exact (toRec_lookup ρ (names t) n hm ⟨v, ev⟩).symm
  have := h _ (hρ.congr e)
  rwa [rowPs_congr t fun n hm => e n hm, rowPs_congr o fun n hm => e n (hn n hm)]
def rA (ps : List Pt) (ρ : As) : List El := pA (rowPs ps ρ [])
def rB (ps : List Pt) (ρ : As) : List El := pB (rowPs ps ρ [])
def rC (ps : List Pt) (ρ : As) : List El := pC (rowPs ps ρ [])
theorem row_dec (ps : List Pt) (ρ : As) (π : List Sg) : rowPs ps ρ π = rA ps ρ ++ ((rC ps ρ).map (addp π) ++ rB ps ρ) := by
  have e1 := row_at ps ρ π
  have e2 := pABC (rowPs ps ρ [])
  have e3 : (pA (rowPs ps ρ []) ++ (pC (rowPs ps ρ []) ++ pB (rowPs ps ρ []))).map (addp π) = rA ps ρ ++ ((rC ps ρ).map (addp π) ++ rB ps ρ) := by
    rw [List.map_append, List.map_append, map_chs (pA_no _), map_chs (pB_no _)]
    rfl
  rw [e1, ← e3, e2]
theorem rC_core {ps : List Pt} (h : ps.any isField = true) (ρ : As) (π : List Sg) : Core (pfx π) ((rC ps ρ).map (addp π)) := core_map (pC_core _ (row_has h))
theorem rA_free (ps : List Pt) (ρ : As) (σ : List Sg) : Free σ (rA ps ρ) := Free.chs (pA_no _)
theorem rB_free (ps : List Pt) (ρ : As) (σ : List Sg) : Free σ (rB ps ρ) := Free.chs (pB_no _)
/-- the claim for one value -/
theorem value_claim {p q : Pt} (ht : isText p = false) (en : nm q = nm p) (ek : kind q = kind p) (hc : isField p = false → Cl (inn p) (inn q)) (hnm : isField p = false → ∀ n ∈ names (inn q), n ∈ names (inn p)) (hf : kind p = kE → (inn p).any isField = true ∧ (inn q).any isField = true)
    {π : List Sg} {A B A' B' : List El} (fA : Free (π ++ [.s (nm p)]) A) (fB : Free (π ++ [.s (nm p)]) B) (fA' : Free (π ++ [.s (nm p)]) A') (fB' : Free (π ++ [.s (nm p)]) B')
    (h : ∀ v, InV W1 M2 p v → A ++ (rowP p (fun _ => some v) π ++ B) = A' ++ (rowP q (fun _ => some v) π ++ B')) : ∀ v, InV WA MA p v → A ++ (rowP p (fun _ => some v) π ++ B) = A' ++ (rowP q (fun _ => some v) π ++ B') := by
  intro v hv
  cases p with
  | text s => simp [isText] at ht
  | field n =>
    cases q with
    | field m =>
      have := h (.word [97]) (by rw [InV]; exact ⟨_, rfl, rfl⟩)
      simpa [rowP] using this
    | text s => simp [kind, kT, kF] at ek
    | opt m qs => simp [kind, kI, kF] at ek
    | rep m s qs => simp [kind, kE, kF] at ek
  | opt n ps =>
    cases q with
    | text s => simp [kind, kT, kI] at ek
    | field m => simp [kind, kI, kF] at ek
    | rep m s qs => simp [kind, kE, kI] at ek
    | opt m qs =>
      simp only [nm] at en; subst en
      rw [InV] at hv
      rcases hv with rfl | ⟨r, rfl, hr⟩
      · exact h .none (by rw [InV]; exact .inl rfl)
      · have key := hc rfl (π ++ [.s m]) A B A' B' fA fB fA' fB' (of_recs (hnm rfl) fun r hr => by
          have := h (.obj r) (by rw [InV]; exact .inr ⟨r, rfl, hr⟩)
          simpa only [rowP, inn] using this) (look (.obj r)) hr
        simpa only [rowP, inn] using key
  | rep n s ps =>
    cases q with
    | text s => simp [kind, kT, kE] at ek
    | field m => simp [kind, kE, kF] at ek
    | opt m qs => simp [kind, kE, kI] at ek
    | rep m s' qs =>
      simp only [nm] at en; subst en
      simp only [nm] at fA fB fA' fB'
      simp only [inn] at hc hnm hf
      obtain ⟨hf1, hf2⟩ := hf rfl
      have hc := hc rfl
      have hnm := hnm rfl
      -- pairs
      have e2 : ∀ x y : Rv, rowP (.rep m s ps) (fun _ => some (.recs [x, y])) π = rowPs ps (look x) (π ++ [.s m, .i 0]) ++ (s.map .ch ++ rowPs ps (look y) (π ++ [.s m, .i 1])) := fun x y => by simp [rowP, items]
      have e2' : ∀ x y : Rv, rowP (.rep m s' qs) (fun _ => some (.recs [x, y])) π = rowPs qs (look x) (π ++ [.s m, .i 0]) ++ (s'.map .ch ++ rowPs qs (look y) (π ++ [.s m, .i 1])) := fun x y => by simp [rowP, items]
      have dp : ∀ i : Nat, π ++ [Sg.s m, .i i] = (π ++ [.s m]) ++ [.i i] := fun i => by simp
      have fr : ∀ (i j : Nat) (l : List Pt) (ρ : As), i ≠ j → Free (π ++ [.s m, .i i]) (rowPs l ρ (π ++ [.s m, .i j])) := fun i j l ρ hij => by rw [row_at]; exact free_other hij _
      have fs : ∀ (σ : List Sg) (l : List Nat), Free σ (l.map .ch) := fun σ l => Free.chs fun e he => by obtain ⟨c, _, rfl⟩ := List.mem_map.mp he; rfl
      have st1 : ∀ y : List (List Nat × Rv), InR W1 M2 ps (look (.obj y)) → ∀ ρ, InR WA MA ps ρ → A ++ (rowPs ps ρ (π ++ [.s m, .i 0]) ++ (s.map .ch ++ (rowPs ps (look (.obj y)) (π ++ [.s m, .i 1]) ++ B))) = A' ++ (rowPs qs ρ (π ++ [.s m, .i 0]) ++ (s'.map .ch ++ (rowPs qs (look (.obj y)) (π ++ [.s m, .i 1]) ++ B'))) := fun y hy => by
        refine hc (π ++ [.s m, .i 0]) A _ A' _ (by rw [dp]; exact fA.deep) ((fs _ _).app ((fr 0 1 _ _ (by decide)).app (by rw [dp]; exact fB.deep))) (by rw [dp]; exact fA'.deep) ((fs _ _).app ((fr 0 1 _ _ (by decide)).app (by rw [dp]; exact fB'.deep))) (of_recs hnm fun x hx => ?_)
        have := h (.recs [.obj x, .obj y]) (by rw [InV]; exact ⟨_, rfl, (by unfold M2; simp), fun z hz => by
          simp only [List.mem_cons, List.not_mem_nil, or_false] at hz
          rcases hz with rfl | rfl
          · exact ⟨_, rfl, hx⟩
          · exact ⟨_, rfl, hy⟩⟩)
        rw [e2, e2'] at this
        simpa only [List.append_assoc] using this
      have st2 : ∀ ρ ρ', InR WA MA ps ρ → InR WA MA ps ρ' → A ++ (rowPs ps ρ (π ++ [.s m, .i 0]) ++ (s.map .ch ++ (rowPs ps ρ' (π ++ [.s m, .i 1]) ++ B))) = A' ++ (rowPs qs ρ (π ++ [.s m, .i 0]) ++ (s'.map .ch ++ (rowPs qs ρ' (π ++ [.s m, .i 1]) ++ B'))) := fun ρ ρ' hρ hρ' => by
        have := hc (π ++ [.s m, .i 1]) (A ++ (rowPs ps ρ (π ++ [.s m, .i 0]) ++ s.map .ch)) B (A' ++ (rowPs qs ρ (π ++ [.s m, .i 0]) ++ s'.map .ch)) B' (Free.app (by rw [dp]; exact fA.deep) ((fr 1 0 _ _ (by decide)).app (fs _ _))) (by rw [dp]; exact fB.deep) (Free.app (by rw [dp]; exact fA'.deep) ((fr 1 0 _ _ (by decide)).app (fs _ _))) (by rw [dp]; exact fB'.deep)
          (of_recs hnm fun y hy => by have := st1 y hy ρ hρ; simpa only [List.append_assoc] using this) ρ' hρ'
        simpa only [List.append_assoc] using this
      -- what lies between two places
      have gaps : ∀ ρ ρ', InR WA MA ps ρ → InR WA MA ps ρ' → A ++ rA ps ρ = A' ++ rA qs ρ ∧ rC ps ρ = rC qs ρ ∧ rB ps ρ ++ (s.map .ch ++ rA ps ρ') = rB qs ρ ++ (s'.map .ch ++ rA qs ρ') ∧ rB ps ρ' ++ B = rB qs ρ' ++ B' := fun ρ ρ' hρ hρ' => by
        have e := st2 ρ ρ' hρ hρ'
        rw [row_dec ps ρ, row_dec ps ρ', row_dec qs ρ, row_dec qs ρ'] at e
        have f0 : Free (π ++ [.s m, .i 0]) B := by rw [dp]; exact fB.deep
        have f0' : Free (π ++ [.s m, .i 0]) B' := by rw [dp]; exact fB'.deep
        have g0 : Free (π ++ [.s m, .i 0]) A := by rw [dp]; exact fA.deep
        have g0' : Free (π ++ [.s m, .i 0]) A' := by rw [dp]; exact fA'.deep
        have f1 : Free (π ++ [.s m, .i 1]) B := by rw [dp]; exact fB.deep
        have f1' : Free (π ++ [.s m, .i 1]) B' := by rw [dp]; exact fB'.deep
        have n01 : Free (π ++ [.s m, .i 0]) ((rC ps ρ').map (addp (π ++ [.s m, .i 1]))) := free_other (by decide) _
        have n01' : Free (π ++ [.s m, .i 0]) ((rC qs ρ').map (addp (π ++ [.s m, .i 1]))) := free_other (by decide) _
        have e' : (A ++ rA ps ρ) ++ ((rC ps ρ).map (addp (π ++ [.s m, .i 0])) ++ (rB ps ρ ++ (s.map .ch ++ (rA ps ρ' ++ ((rC ps ρ').map (addp (π ++ [.s m, .i 1])) ++ (rB ps ρ' ++ B)))))) = (A' ++ rA qs ρ) ++ ((rC qs ρ).map (addp (π ++ [.s m, .i 0])) ++ (rB qs ρ ++ (s'.map .ch ++ (rA qs ρ' ++ ((rC qs ρ').map (addp (π ++ [.s m, .i 1])) ++ (rB qs ρ' ++ B')))))) := by
          simpa only [List.append_assoc] using e
        obtain ⟨u1, u2, u3⟩ := cut (g0.app (rA_free ps ρ _)) (g0'.app (rA_free qs ρ _)) ((rB_free ps ρ _).app ((fs _ s).app ((rA_free ps ρ' _).app (n01.app ((rB_free ps ρ' _).app f0))))) ((rB_free qs ρ _).app ((fs _ s').app ((rA_free qs ρ' _).app (n01'.app ((rB_free qs ρ' _).app f0'))))) (rC_core hf1 ρ _) (rC_core hf2 ρ _) e'
        have e'' : (rB ps ρ ++ (s.map .ch ++ rA ps ρ')) ++ ((rC ps ρ').map (addp (π ++ [.s m, .i 1])) ++ (rB ps ρ' ++ B)) = (rB qs ρ ++ (s'.map .ch ++ rA qs ρ')) ++ ((rC qs ρ').map (addp (π ++ [.s m, .i 1])) ++ (rB qs ρ' ++ B')) := by
          simpa only [List.append_assoc] using u3
        obtain ⟨w1, w2, w3⟩ := cut ((rB_free ps ρ _).app ((fs _ s).app (rA_free ps ρ' _))) ((rB_free qs ρ _).app ((fs _ s').app (rA_free qs ρ' _))) ((rB_free ps ρ' _).app f1) ((rB_free qs ρ' _).app f1') (rC_core hf1 ρ' _) (rC_core hf2 ρ' _) e''
        exact ⟨u1, addp_inj u2, w1, w3⟩
      rw [InV] at hv
      obtain ⟨rs, rfl, _, hr⟩ := hv
      have hr' : ∀ x ∈ rs, InR WA MA ps (look x) := fun x hx => by obtain ⟨r, rfl, k⟩ := hr x hx; exact k
      have tail : ∀ (xs : List Rv), (∀ x ∈ xs, InR WA MA ps (look x)) → ∀ (x : Rv) (i : Nat), InR WA MA ps (look x) →
          (rC ps (look x)).map (addp (π ++ [.s m, .i i])) ++ (rB ps (look x) ++ (items (fun x i => rowPs ps (look x) (π ++ [.s m, .i i])) (s.map .ch) (i + 1) xs ++ B)) = (rC qs (look x)).map (addp (π ++ [.s m, .i i])) ++ (rB qs (look x) ++ (items (fun x i => rowPs qs (look x) (π ++ [.s m, .i i])) (s'.map .ch) (i + 1) xs ++ B')) := fun xs => by
        induction xs with
        | nil =>
          intro _ x i hx
          obtain ⟨_, g2, _, g4⟩ := gaps _ _ hx hx
          rw [items, items, List.nil_append, List.nil_append, g2, g4]
        | cons y ys ih =>
          intro hy x i hx
          have hyo := hy y List.mem_cons_self
          obtain ⟨_, g2, g3, _⟩ := gaps _ _ hx hyo
          have := ih (fun z hz => hy z (List.mem_cons_of_mem _ hz)) y (i + 1) hyo
          rw [items, items, if_pos (Nat.succ_pos i), if_pos (Nat.succ_pos i), row_dec ps (look y), row_dec qs (look y), g2]
          simp only [List.append_assoc]
          congr 1
          rw [← List.append_assoc (s.map El.ch), ← List.append_assoc (rB ps (look x)), g3, this]
          simp only [List.append_assoc]
      cases rs with
      | nil =>
        have := h (.recs []) (by rw [InV]; exact ⟨[], rfl, (by unfold M2; simp), fun z hz => by simp at hz⟩)
        exact this
      | cons x xs =>
        have hx := hr' x List.mem_cons_self
        obtain ⟨g1, _, _, _⟩ := gaps _ _ hx hx
        have := tail xs (fun z hz => hr' z (List.mem_cons_of_mem _ hz)) x 0 hx
        simp only [rowP]
        rw [items, items, if_neg (by decide), if_neg (by decide), List.nil_append, List.nil_append, row_dec ps (look x), row_dec qs (look x)]
        simp only [List.append_assoc]
        rw [← List.append_assoc A, g1, this]
        simp only [List.append_assoc]
theorem small : ∀ (k : Nat) (t o : List Pt), Alk k t o → Cl t o
  | 0, _, _, h => h.elim
  | k + 1, t, o, h => by
    obtain ⟨n1, n2, h1, h2⟩ := h
    intro π A B A' B' fA fB fA' fB' H
    have key : ∀ (L : List (List Nat)) (ρ : As), (∀ p ∈ t, isText p = false → ∃ v, ρ (nm p) = some v ∧ InV WA MA p v ∧ (nm p ∉ L → InV W1 M2 p v)) → A ++ (rowPs t ρ π ++ B) = A' ++ (rowPs o ρ π ++ B') := fun L => by
      induction L with
      | nil =>
        intro ρ hρ
        refine H ρ (InR.mk fun p hp ht => ?_)
        obtain ⟨v, e, _, k⟩ := hρ p hp ht
        exact ⟨v, e, k (by simp)⟩
      | cons n L ih =>
        intro ρ hρ
        by_cases hex : ∃ p ∈ t, isText p = false ∧ nm p = n
        · obtain ⟨p, hp, ht, en⟩ := hex
          obtain ⟨q, hq, enq, ekq, hin, hfl⟩ := h1 p hp ht
          have htq : isText q = false := by
            cases q with
            | text s => cases p <;> simp [kind, isText, kT, kF, kI, kE] at ekq ht
            | field m => rfl
            | opt m l => rfl
            | rep m s l => rfl
          obtain ⟨t1, t2, et⟩ := List.append_of_mem hp
          obtain ⟨o1, o2, eo⟩ := List.append_of_mem hq
          have nt : n ∉ names t1 ∧ n ∉ names t2 := by
            rw [et, names_app, names_cons, if_neg (by simp [ht]), en] at n1
            rw [List.nodup_append] at n1
            exact ⟨fun z => n1.2.2 n z n List.mem_cons_self rfl, fun z => (List.nodup_cons.mp n1.2.1).1 z⟩
          have no : n ∉ names o1 ∧ n ∉ names o2 := by
            rw [eo, names_app, names_cons, if_neg (by simp [htq]), enq, en] at n2
            rw [List.nodup_append] at n2
            exact ⟨fun z => n2.2.2 n z n List.mem_cons_self rfl, fun z => (List.nodup_cons.mp n2.2.1).1 z⟩
          obtain ⟨v, ev, hv, _⟩ := hρ p hp ht
          have ex : ∀ (ρ' : As) (w : Rv), ρ' n = some w → (∀ m, m ≠ n → ρ' m = ρ m) → (A ++ (rowPs t ρ' π ++ B) = A' ++ (rowPs o ρ' π ++ B') ↔ (A ++ rowPs t1 ρ π) ++ (rowP p (fun _ => some w) π ++ (rowPs t2 ρ π ++ B)) = (A' ++ rowPs o1 ρ π) ++ (rowP q (fun _ => some w) π ++ (rowPs o2 ρ π ++ B'))) := fun ρ' w ew hne => by
            have c1 : ∀ l : List Pt, n ∉ names l → rowPs l ρ' π = rowPs l ρ π := fun l hl => rowPs_congr l fun m hm => hne m fun z => hl (z ▸ hm)
            rw [et, eo, rowPs_app, rowPs_app, rowPs, rowPs, c1 t1 nt.1, c1 t2 nt.2, c1 o1 no.1, c1 o2 no.2, rowP_congr (ρ' := fun _ => some w) p fun _ => by rw [en]; exact ew, rowP_congr (ρ' := fun _ => some w) q fun _ => by rw [enq, en]; exact ew]
            simp only [List.append_assoc]
          have hpn : nm p = n := en
          refine (ex ρ v (by rw [← en]; exact ev) fun _ _ => rfl).mpr (value_claim ht enq ekq (fun hf => small k _ _ (hin hf)) (fun hf m hm => ?_) hfl (by rw [hpn]; exact fA.deep.app (free_row nt.1)) (by rw [hpn]; exact (free_row nt.2).app fB.deep) (by rw [hpn]; exact fA'.deep.app (free_row no.1)) (by rw [hpn]; exact (free_row no.2).app fB'.deep) (fun w hw => ?_) v hv)
          · have hk := hin hf
            cases k with
            | zero => exact hk.elim
            | succ k =>
              obtain ⟨q', hq', ht', e'⟩ := of_names hm
              obtain ⟨p', hp', ht2, e2⟩ := hk.2.2.2 q' hq' ht'
              rw [← e', ← e2]
              exact mem_names hp' ht2
          · refine (ex (updA ρ n w) w (by simp [updA]) fun m hm => by simp [updA, hm]).mp (ih _ fun p' hp' ht' => ?_)
            by_cases hpe : nm p' = n
            · have : p' = p := by
                rw [et] at hp'
                rcases List.mem_append.mp hp' with z | z
                · exact absurd (hpe ▸ mem_names z ht') nt.1
                · rcases List.mem_cons.mp z with z | z
                  · exact z
                  · exact absurd (hpe ▸ mem_names z ht') nt.2
              subst this
              exact ⟨w, by simp [updA, hpe], InV.mono _ p' w (Nat.le_refl _) hw, fun _ => hw⟩
            · obtain ⟨u, eu, hu, ku⟩ := hρ p' hp' ht'
              exact ⟨u, by simp [updA, hpe, eu], hu, fun z => ku (by simp [hpe, z])⟩
        · refine ih ρ fun p hp ht => ?_
          obtain ⟨v, e, hv, k⟩ := hρ p hp ht
          refine ⟨v, e, hv, fun z => k fun y => ?_⟩
          rcases List.mem_cons.mp y with y | y
          · exact hex ⟨p, hp, ht, y⟩
          · exact z y
    intro ρ hρ
    refine key (names t) ρ fun p hp ht => ?_
    obtain ⟨v, e, hv⟩ := hρ.mem p hp ht
    exact ⟨v, e, hv, fun z => absurd (mem_names hp ht) z⟩
/-! ### rows: what row_of gives -/
def encSg : Sg → D
  | .i n => .int n
  | .s l => .str l
def encEl : El → D
  | .ch c => .str [c]
  | .mk p => .tup (p.map encSg)
def dPath (π : List Sg) : D := .tup (π.map encSg)
theorem path1 (π : List Sg) (n : List Nat) (h : π.length + 1 ≤ Ln) : dAdd (dPath π) (.tup [.str n]) = some (dPath (π ++ [.s n])) := by
  unfold dAdd dPath
  dsimp only
  rw [if_pos (by simpa using h), List.map_append]
  rfl
theorem path2 (π : List Sg) (n : List Nat) (k : Nat) (h : π.length + 2 ≤ Ln) : dAdd (dPath π) (.tup [.str n, .int k]) = some (dPath (π ++ [.s n, .i k])) := by
  unfold dAdd dPath
  dsimp only
  rw [if_pos (by simpa using h), List.map_append]
  rfl
theorem list_chs (s : List Nat) : dList [.str s] = some (.lst ((s.map El.ch).map encEl)) := by
  rw [List.map_map]; rfl
theorem sIf_t {t : DS → R (Bool × DS)} {f g : DS → Out} {ds ds' : DS} (h : t ds = .ok (true, ds')) : sIf t f g ds = f ds' := by
  unfold sIf; rw [h]; rfl
theorem sIf_f {t : DS → R (Bool × DS)} {f g : DS → Out} {ds ds' : DS} (h : t ds = .ok (false, ds')) : sIf t f g ds = g ds' := by
  unfold sIf; rw [h]; rfl
theorem test_kind (i : Nat) {ds : DS} {p : Pt} (h : ds[i]? = some (.val (enc p))) (k : List Nat) : toB (fBin dEq (fBin dGetI (vGet i) (vC (.int 0))) (vC (.str k))) ds = .ok (decide (kind p = k), ds) := by
  simp only [toB, fBin, vGet, vC, h, R.bind_ok, enc_0, lft_some, eq_str]
theorem get_kind (i : Nat) {ds : DS} {p : Pt} (h : ds[i]? = some (.val (enc p))) : fBin dGetI (vGet i) (vC (.int 0)) ds = .ok (.str (kind p), ds) := by
  simp only [fBin, vGet, vC, h, R.bind_ok, enc_0, lft_some]
theorem get_nm (i : Nat) {ds : DS} {p : Pt} (h : ds[i]? = some (.val (enc p))) : fBin dGetI (vGet i) (vC (.int 1)) ds = .ok (.str (nm p), ds) := by
  simp only [fBin, vGet, vC, h, R.bind_ok, enc_1, lft_some]
theorem get_val (i j : Nat) {ds : DS} {p : Pt} {rr : List (List Nat × Rv)} {v : Rv} (h : ds[i]? = some (.val (enc p))) (hj : ds[j]? = some (.val (.dic 0 (encR rr)))) (e : rr.lookup (nm p) = some v) : fBin dGetI (vGet j) (fBin dGetI (vGet i) (vC (.int 1))) ds = .ok (encV v, ds) := by
  have g : dGetI (.dic 0 (encR rr)) (.str (nm p)) = some (encV v) := by
    show (if fitK 0 (.str (nm p)) = true then dget (encR rr) (.str (nm p)) else none) = _
    rw [if_pos (fitK_str _), lookup_dget, e]; rfl
  unfold fBin
  rw [show vGet j ds = .ok (.dic 0 (encR rr), ds) by simp only [vGet, hj]]
  simp only [R.bind_ok]
  have := get_nm i h
  unfold fBin at this
  rw [this]
  simp only [R.bind_ok, g, lft_some]
theorem sExt_ok {i : Nat} {f : DS → R (D × DS)} {ds : DS} {xs ys : List D} (h : ds[i]? = some (.own (.l xs))) (hf : f ds = .ok (.lst ys, ds)) (hl : xs.length + ys.length ≤ Ln) : sExt i f ds = .nx (ds.set i (.own (.l (xs ++ ys)))) := by
  unfold sExt
  simp only [h, hf, toOut_ok, hl, if_true]
theorem sApp_ok {i : Nat} {f : DS → R (D × DS)} {ds : DS} {xs : List D} {d : D} (h : ds[i]? = some (.own (.l xs))) (hf : f ds = .ok (d, ds)) (hl : xs.length < Ln) : sApp i f ds = .nx (ds.set i (.own (.l (xs ++ [d])))) := by
  unfold sApp
  simp only [h, hf, toOut_ok, hl, if_true]
theorem mk1 (f : DS → R (D × DS)) (ds ds' : DS) (d : D) (h : f ds = .ok (d, ds')) : mkTup (aCons f aNil) ds = .ok (.tup [d], ds') := by
  have h1 : ([d] : List D).length ≤ Ln := by show 1 ≤ Ln; decide
  unfold mkTup aCons
  rw [h]
  simp only [R.bind_ok, aNil, h1, if_true]
theorem mk2 (f g : DS → R (D × DS)) (ds ds' ds2 : DS) (d e : D) (h : f ds = .ok (d, ds')) (k : g ds' = .ok (e, ds2)) : mkTup (aCons f (aCons g aNil)) ds = .ok (.tup [d, e], ds2) := by
  have h1 : ([d, e] : List D).length ≤ Ln := by show 2 ≤ Ln; decide
  unfold mkTup aCons
  rw [h]
  simp only [R.bind_ok, aCons, k, aNil, h1, if_true]
section
variable {c0 : Nat → List Sl → Res} {fuel : Nat}
def RowC (c0 : Nat → List Sl → Res) (fuel : Nat) (ps : List Pt) (m : Nat) : Prop := ∀ q π, FitR ps q → π.length ≤ m → c0 fuel [.val (.tup (encs ps)), .val (.dic 0 (encR q)), .val (dPath π)] = .ret (.lst ((rowPs ps (look (.obj q)) π).map encEl)) []
theorem row_rep {n s : List Nat} {ps : List Pt} {π : List Sg} (x0 x1 : Sl) (hc : RowC c0 fuel ps (π.length + 2)) (hπ : π.length ≤ 1000) : ∀ (rs : List Rv), (∀ x ∈ rs, ∃ q, x = .obj q ∧ FitR ps q) → ∀ (k : Nat) (acc : List D) (x5 x6 : Sl), acc.length + (items (fun x i => rowPs ps (look x) (π ++ [.s n, .i i])) (s.map .ch) k rs).length ≤ Ln →
    ∃ y5 y6, forD (gTupD 2 (gConsD (gSet 5) (gConsD (gSet 6) gNilD))) (B_row_of_f0 c0 fuel) (enumD k (encVs rs)) [x0, x1, .val (dPath π), .own (.l acc), .val (enc (.rep n s ps)), x5, x6] = .nx [x0, x1, .val (dPath π), .own (.l (acc ++ (items (fun x i => rowPs ps (look x) (π ++ [.s n, .i i])) (s.map .ch) k rs).map encEl)), .val (enc (.rep n s ps)), y5, y6]
  | [], _, k, acc, x5, x6, _ => ⟨x5, x6, by simp [encVs, enumD, forD, items]⟩
  | x :: rs, h, k, acc, x5, x6, hl => by
    obtain ⟨q, rfl, hq⟩ := h x List.mem_cons_self
    have g1 : dGetI (enc (.rep n s ps)) (.int 1) = some (.str n) := enc_1 _
    have g2 : dGetI (enc (.rep n s ps)) (.int 2) = some (.str s) := rfl
    have g3 : dGetI (enc (.rep n s ps)) (.int 3) = some (.tup (encs ps)) := rfl
    have ec := hc q (π ++ [.s n, .i k]) hq (by simp)
    have pa := path2 π n k (by unfold Ln; omega)
    rw [items] at hl ⊢
    simp only [List.length_append] at hl
    have sep : ∀ acc : List D, acc.length + (if 0 < k then s.map El.ch else []).length ≤ Ln → sExt 3 (fIf (toB (fBin dGt (vGet 5) (vC (.int 0)))) (fCall dList (aCons (fBin dGetI (vGet 4) (vC (.int 2))) aNil)) (mkLst aNil)) [x0, x1, .val (dPath π), .own (.l acc), .val (enc (.rep n s ps)), .val (.int k), .val (encV (.obj q))]
        = .nx [x0, x1, .val (dPath π), .own (.l (acc ++ (if 0 < k then s.map El.ch else []).map encEl)), .val (enc (.rep n s ps)), .val (.int k), .val (encV (.obj q))] := fun acc ha => by
      by_cases hk : 0 < k
      · have hk' : (0 : Int) < (k : Int) := by omega
        have e := list_chs s
        rw [if_pos hk, List.length_map] at ha
        rw [if_pos hk]
        have ha' : acc.length + ((s.map El.ch).map encEl).length ≤ Ln := by simpa using ha
        simp only [sExt, List.getElem?_cons_succ, List.getElem?_cons_zero, fIf, toB, fBin, vGet, vC, R.bind_ok, dGt, hk', decide_true, lft_some, if_true, fCall, aCons, aNil, g2, e, toOut_ok, ha', List.set_cons_succ, List.set_cons_zero]
      · have hk' : ¬ (0 : Int) < (k : Int) := by omega
        have h0 : ([] : List D).length ≤ Ln := by decide
        rw [if_neg hk] at ha
        rw [if_neg hk]
        have ha' : acc.length + ([] : List D).length ≤ Ln := by simpa using ha
        simp only [sExt, List.getElem?_cons_succ, List.getElem?_cons_zero, fIf, toB, fBin, vGet, vC, R.bind_ok, dGt, hk', decide_false, lft_some, Bool.false_eq_true, if_false, mkLst, aNil, h0, if_true, toOut_ok, ha', List.set_cons_succ, List.set_cons_zero, List.map_nil]
    have one : ∀ acc : List D, acc.length + (rowPs ps (look (.obj q)) (π ++ [.s n, .i k])).length ≤ Ln → sExt 3 (fCallF (c0 fuel) (aaVal (fBin dGetI (vGet 4) (vC (.int 3))) (aaVal (vGet 6) (aaVal (fBin dAdd (vGet 2) (mkTup (aCons (fBin dGetI (vGet 4) (vC (.int 1))) (aCons (vGet 5) aNil)))) aaNil)))) [x0, x1, .val (dPath π), .own (.l acc), .val (enc (.rep n s ps)), .val (.int k), .val (encV (.obj q))]
        = .nx [x0, x1, .val (dPath π), .own (.l (acc ++ (rowPs ps (look (.obj q)) (π ++ [.s n, .i k])).map encEl)), .val (enc (.rep n s ps)), .val (.int k), .val (encV (.obj q))] := fun acc ha => by
      have tp := mk2 (fBin dGetI (vGet 4) (vC (.int 1))) (vGet 5) [x0, x1, .val (dPath π), .own (.l acc), .val (enc (.rep n s ps)), .val (.int k), .val (encV (.obj q))] [x0, x1, .val (dPath π), .own (.l acc), .val (enc (.rep n s ps)), .val (.int k), .val (encV (.obj q))] [x0, x1, .val (dPath π), .own (.l acc), .val (enc (.rep n s ps)), .val (.int k), .val (encV (.obj q))] (.str n) (.int k) (by simp only [fBin, vGet, vC, List.getElem?_cons_succ, List.getElem?_cons_zero, R.bind_ok, g1, lft_some]) (by simp only [vGet, List.getElem?_cons_succ, List.getElem?_cons_zero])
      have ha' : acc.length + ((rowPs ps (look (.obj q)) (π ++ [.s n, .i k])).map encEl).length ≤ Ln := by simpa using ha
      have cf : fCallF (c0 fuel) (aaVal (fBin dGetI (vGet 4) (vC (.int 3))) (aaVal (vGet 6) (aaVal (fBin dAdd (vGet 2) (mkTup (aCons (fBin dGetI (vGet 4) (vC (.int 1))) (aCons (vGet 5) aNil)))) aaNil))) [x0, x1, .val (dPath π), .own (.l acc), .val (enc (.rep n s ps)), .val (.int k), .val (encV (.obj q))] = .ok (.lst ((rowPs ps (look (.obj q)) (π ++ [.s n, .i k])).map encEl), [x0, x1, .val (dPath π), .own (.l acc), .val (enc (.rep n s ps)), .val (.int k), .val (encV (.obj q))]) := by
        refine fCallF_ret (l := [.v (.tup (encs ps)), .v (encV (.obj q)), .v (dPath (π ++ [.s n, .i k]))]) (as := [.val (.tup (encs ps)), .val (.dic 0 (encR q)), .val (dPath (π ++ [.s n, .i k]))]) (cs := []) ?_ rfl (by simp [idxOf]) ec
        simp only [aaVal, aaNil, fBin, vGet, vC, List.getElem?_cons_succ, List.getElem?_cons_zero, R.bind_ok, g3, lft_some]
        simp only [tp, R.bind_ok, pa, lft_some]
      simp only [sExt, List.getElem?_cons_succ, List.getElem?_cons_zero, cf, toOut_ok, ha', if_true, List.set_cons_succ, List.set_cons_zero]
    have b1 := sep acc (by omega)
    have b2 := one (acc ++ (if 0 < k then s.map El.ch else []).map encEl) (by rw [List.length_append, List.length_map]; omega)
    obtain ⟨y5, y6, ih⟩ := row_rep (n := n) (s := s) x0 x1 hc hπ rs (fun y hy => h y (List.mem_cons_of_mem _ hy)) (k + 1) (acc ++ (if 0 < k then s.map El.ch else []).map encEl ++ (rowPs ps (look (.obj q)) (π ++ [.s n, .i k])).map encEl) (.val (.int k)) (.val (encV (.obj q))) (by simp only [List.length_append, List.length_map]; omega)
    refine ⟨y5, y6, ?_⟩
    rw [encVs, enumD, forD]
    have tg : gTupD 2 (gConsD (gSet 5) (gConsD (gSet 6) gNilD)) (.tup [.int (k : Nat), encV (.obj q)]) [x0, x1, .val (dPath π), .own (.l acc), .val (enc (.rep n s ps)), x5, x6] = some [x0, x1, .val (dPath π), .own (.l acc), .val (enc (.rep n s ps)), .val (.int k), .val (encV (.obj q))] := rfl
    have bd : B_row_of_f0 c0 fuel [x0, x1, .val (dPath π), .own (.l acc), .val (enc (.rep n s ps)), .val (.int k), .val (encV (.obj q))] = .nx [x0, x1, .val (dPath π), .own (.l (acc ++ (if 0 < k then s.map El.ch else []).map encEl ++ (rowPs ps (look (.obj q)) (π ++ [.s n, .i k])).map encEl)), .val (enc (.rep n s ps)), .val (.int k), .val (encV (.obj q))] := by
      rw [B_row_of_f0, sSeq_nx b1, b2]
    rw [tg]
    simp only [bd, loopK]
    rw [ih]
    simp only [List.map_append, List.append_assoc]
theorem row_body {d : Nat} {rr : List (List Nat × Rv)} {π : List Sg} (p : Pt) (hg : goodP d p = true) (hv : isText p = false → ∃ v, rr.lookup (nm p) = some v ∧ FitV p v) (h0 : isText p = false → isField p = false → RowC c0 fuel (inn p) (π.length + 2)) (hπ : π.length ≤ 1000) (x0 : Sl) (acc : List D) (hl : acc.length + (rowP p (look (.obj rr)) π).length ≤ Ln) (x5 x6 : Sl) :
    ∃ y5 y6, (sIf (toB (fBin dEq (fBin dGetI (vGet 4) (vC (.int 0))) (vC (.str [116, 101, 120, 116])))) (sExt 3 (fCall dList (aCons (fBin dGetI (vGet 4) (vC (.int 1))) (aNil)))) (B_row_of_e3 c0 fuel)) [x0, .val (.dic 0 (encR rr)), .val (dPath π), .own (.l acc), .val (enc p), x5, x6] = .nx [x0, .val (.dic 0 (encR rr)), .val (dPath π), .own (.l (acc ++ (rowP p (look (.obj rr)) π).map encEl)), .val (enc p), y5, y6] := by
  cases p with
  | text s =>
    have g0 : dGetI (enc (.text s)) (.int 0) = some (.str kT) := enc_0 _
    have g1 : dGetI (enc (.text s)) (.int 1) = some (.str s) := enc_1 _
    have e := list_chs s
    simp only [rowP] at hl ⊢
    have ha' : acc.length + ((s.map El.ch).map encEl).length ≤ Ln := by simpa using hl
    refine ⟨x5, x6, ?_⟩
    simp only [sIf, toB, fBin, vGet, vC, List.getElem?_cons_succ, List.getElem?_cons_zero, R.bind_ok, g0, g1, lft_some, eq_str, kT, decide_true, toOut_ok, if_true, sExt, fCall, aCons, aNil, e, ha', List.set_cons_succ, List.set_cons_zero]
  | field n =>
    have g0 : dGetI (enc (.field n)) (.int 0) = some (.str kF) := enc_0 _
    have g1 : dGetI (enc (.field n)) (.int 1) = some (.str n) := enc_1 _
    have pa := path1 π n (by unfold Ln; omega)
    simp only [rowP] at hl ⊢
    have ha' : acc.length < Ln := by have := hl; simp at this; omega
    refine ⟨x5, x6, ?_⟩
    have tp := mk1 (fBin dGetI (vGet 4) (vC (.int 1))) [x0, .val (.dic 0 (encR rr)), .val (dPath π), .own (.l acc), .val (enc (.field n)), x5, x6] [x0, .val (.dic 0 (encR rr)), .val (dPath π), .own (.l acc), .val (enc (.field n)), x5, x6] (.str n) (by simp only [fBin, vGet, vC, List.getElem?_cons_succ, List.getElem?_cons_zero, R.bind_ok, g1, lft_some])
    have ne1 : decide (kF = [116, 101, 120, 116]) = false := by decide
    have ne2 : decide (kF = [102, 105, 101, 108, 100]) = true := by decide
    have a1 : (fBin dAdd (vGet 2) (mkTup (aCons (fBin dGetI (vGet 4) (vC (.int 1))) (aNil)))) [x0, .val (.dic 0 (encR rr)), .val (dPath π), .own (.l acc), .val (enc (.field n)), x5, x6] = .ok (dPath (π ++ [.s n]), [x0, .val (.dic 0 (encR rr)), .val (dPath π), .own (.l acc), .val (enc (.field n)), x5, x6]) := by
      rw [fBin]
      simp only [vGet, List.getElem?_cons_succ, List.getElem?_cons_zero, R.bind_ok]
      rw [tp]
      simp only [R.bind_ok, pa, lft_some]
    rw [sIf_f (test_kind 4 (p := .field n) rfl _), B_row_of_e3, sIf_t (test_kind 4 (p := .field n) rfl _), sApp_ok rfl a1 ha']
    rfl
  | opt n ps =>
    obtain ⟨v, e, f⟩ := hv rfl
    simp only [nm] at e
    have gv : dGetI (.dic 0 (encR rr)) (.str n) = some (encV v) := by
      show (if fitK 0 (.str n) = true then dget (encR rr) (.str n) else none) = _
      rw [if_pos (fitK_str _), lookup_dget, e]; rfl
    have g0 : dGetI (enc (.opt n ps)) (.int 0) = some (.str kI) := enc_0 _
    have g1 : dGetI (enc (.opt n ps)) (.int 1) = some (.str n) := enc_1 _
    have g2 : dGetI (enc (.opt n ps)) (.int 2) = some (.tup (encs ps)) := rfl
    have ne1 : decide (kI = [116, 101, 120, 116]) = false := by decide
    have ne2 : decide (kI = [102, 105, 101, 108, 100]) = false := by decide
    have ne3 : decide (kI = [101, 97, 99, 104]) = false := by decide
    have el : look (.obj rr) n = some v := e
    rw [FitV] at f
    refine ⟨x5, x6, ?_⟩
    rcases f with rfl | ⟨q, rfl, hq⟩
    · simp only [rowP, el] at hl ⊢
      simp only [sIf, toB, fBin, vGet, vC, List.getElem?_cons_succ, List.getElem?_cons_zero, R.bind_ok, g0, g1, gv, encV, lft_some, eq_str, ne1, ne2, ne3, toOut_ok, Bool.false_eq_true, if_false, B_row_of_e3, B_row_of_e2, dIsNot, isNonD, Bool.not_true, sNx, List.map_nil, List.append_nil]
    · simp only [rowP, el] at hl ⊢
      have ec := h0 rfl rfl q (π ++ [.s n]) hq (by simp)
      simp only [inn] at ec
      have pa := path1 π n (by unfold Ln; omega)
      have ha' : acc.length + ((rowPs ps (look (.obj q)) (π ++ [.s n])).map encEl).length ≤ Ln := by simpa using hl
      have tp := mk1 (fBin dGetI (vGet 4) (vC (.int 1))) [x0, .val (.dic 0 (encR rr)), .val (dPath π), .own (.l acc), .val (enc (.opt n ps)), x5, x6] [x0, .val (.dic 0 (encR rr)), .val (dPath π), .own (.l acc), .val (enc (.opt n ps)), x5, x6] (.str n) (by simp only [fBin, vGet, vC, List.getElem?_cons_succ, List.getElem?_cons_zero, R.bind_ok, g1, lft_some])
      have cf : fCallF (c0 fuel) (aaVal (fBin dGetI (vGet 4) (vC (.int 2))) (aaVal (fBin dGetI (vGet 1) (fBin dGetI (vGet 4) (vC (.int 1)))) (aaVal (fBin dAdd (vGet 2) (mkTup (aCons (fBin dGetI (vGet 4) (vC (.int 1))) (aNil)))) (aaNil)))) [x0, .val (.dic 0 (encR rr)), .val (dPath π), .own (.l acc), .val (enc (.opt n ps)), x5, x6] = .ok (.lst ((rowPs ps (look (.obj q)) (π ++ [.s n])).map encEl), [x0, .val (.dic 0 (encR rr)), .val (dPath π), .own (.l acc), .val (enc (.opt n ps)), x5, x6]) := by
        refine fCallF_ret (l := [.v (.tup (encs ps)), .v (encV (.obj q)), .v (dPath (π ++ [.s n]))]) (as := [.val (.tup (encs ps)), .val (.dic 0 (encR q)), .val (dPath (π ++ [.s n]))]) (cs := []) ?_ rfl (by simp [idxOf]) ec
        simp only [aaVal, aaNil, fBin, vGet, vC, List.getElem?_cons_succ, List.getElem?_cons_zero, R.bind_ok, g2, g1, gv, lft_some]
        simp only [tp, R.bind_ok, pa, lft_some]
      have st : B_row_of_i1 c0 fuel [x0, .val (.dic 0 (encR rr)), .val (dPath π), .own (.l acc), .val (enc (.opt n ps)), x5, x6] = .nx [x0, .val (.dic 0 (encR rr)), .val (dPath π), .own (.l (acc ++ (rowPs ps (look (.obj q)) (π ++ [.s n])).map encEl)), .val (enc (.opt n ps)), x5, x6] := by
        simp only [B_row_of_i1, sExt, List.getElem?_cons_succ, List.getElem?_cons_zero, cf, toOut_ok, ha', if_true, List.set_cons_succ, List.set_cons_zero]
      simp only [sIf, toB, fBin, vGet, vC, List.getElem?_cons_succ, List.getElem?_cons_zero, R.bind_ok, g0, g1, gv, encV, lft_some, eq_str, ne1, ne2, ne3, toOut_ok, Bool.false_eq_true, if_false, B_row_of_e3, B_row_of_e2, dIsNot, isNonD, Bool.not_false, if_true, st]
  | rep n s ps =>
    obtain ⟨v, e, f⟩ := hv rfl
    simp only [nm] at e
    have gv : dGetI (.dic 0 (encR rr)) (.str n) = some (encV v) := by
      show (if fitK 0 (.str n) = true then dget (encR rr) (.str n) else none) = _
      rw [if_pos (fitK_str _), lookup_dget, e]; rfl
    have g0 : dGetI (enc (.rep n s ps)) (.int 0) = some (.str kE) := enc_0 _
    have g1 : dGetI (enc (.rep n s ps)) (.int 1) = some (.str n) := enc_1 _
    have ne1 : decide (kE = [116, 101, 120, 116]) = false := by decide
    have ne2 : decide (kE = [102, 105, 101, 108, 100]) = false := by decide
    have ne3 : decide (kE = [101, 97, 99, 104]) = true := by decide
    have el : look (.obj rr) n = some v := e
    rw [FitV] at f
    obtain ⟨rs, rfl, hl4, hr⟩ := f
    simp only [rowP, el] at hl ⊢
    obtain ⟨y5, y6, er⟩ := row_rep (c0 := c0) (fuel := fuel) (n := n) (s := s) (π := π) x0 (.val (.dic 0 (encR rr))) (h0 rfl rfl) hπ rs hr 0 acc x5 x6 hl
    refine ⟨y5, y6, ?_⟩
    simp only [sIf, toB, fBin, vGet, vC, List.getElem?_cons_succ, List.getElem?_cons_zero, R.bind_ok, g0, g1, gv, encV, lft_some, eq_str, ne1, ne2, ne3, toOut_ok, Bool.false_eq_true, if_false, if_true, B_row_of_e3, B_row_of_e2, sFor, iEnumD, aCons, aNil]
    exact er
theorem row_loop {d : Nat} {rr : List (List Nat × Rv)} {π : List Sg} (hπ : π.length ≤ 1000) (x0 : Sl) : ∀ (ps : List Pt), (∀ p ∈ ps, isText p = false → isField p = false → RowC c0 fuel (inn p) (π.length + 2)) → ps.all (goodP d) = true → FitAll ps rr → ∀ (acc : List D) (x x5 x6 : Sl), acc.length + (rowPs ps (look (.obj rr)) π).length ≤ Ln →
    ∃ y y5 y6, forD (gSet 4) (sIf (toB (fBin dEq (fBin dGetI (vGet 4) (vC (.int 0))) (vC (.str [116, 101, 120, 116])))) (sExt 3 (fCall dList (aCons (fBin dGetI (vGet 4) (vC (.int 1))) (aNil)))) (B_row_of_e3 c0 fuel)) (encs ps) [x0, .val (.dic 0 (encR rr)), .val (dPath π), .own (.l acc), x, x5, x6] = .nx [x0, .val (.dic 0 (encR rr)), .val (dPath π), .own (.l (acc ++ (rowPs ps (look (.obj rr)) π).map encEl)), y, y5, y6]
  | [], _, _, _, acc, x, x5, x6, _ => ⟨x, x5, x6, by simp [encs, forD, rowPs]⟩
  | p :: ps, h0, hg, hf, acc, x, x5, x6, hl => by
    rw [List.all_cons, Bool.and_eq_true] at hg
    rw [FitAll] at hf
    rw [rowPs, List.length_append] at hl
    obtain ⟨z5, z6, hb⟩ := row_body (c0 := c0) (fuel := fuel) p hg.1 hf.1 (h0 p List.mem_cons_self) hπ x0 acc (by omega) x5 x6
    obtain ⟨y, y5, y6, ih⟩ := row_loop hπ x0 ps (fun q hq => h0 q (List.mem_cons_of_mem _ hq)) hg.2 hf.2 (acc ++ (rowP p (look (.obj rr)) π).map encEl) (.val (enc p)) z5 z6 (by rw [List.length_append, List.length_map]; omega)
    refine ⟨y, y5, y6, ?_⟩
    rw [encs, forD]
    simp only [gSet_app, List.set_cons_succ, List.set_cons_zero, hb, loopK, ih, rowPs, List.map_append, List.append_assoc]
end
/-- a row is not longer than the text -/
theorem row_le : ∀ n : Nat, ∀ (ps : List Pt) (rr : List (List Nat × Rv)) (π : List Sg), hgs ps ≤ n → FitAll ps rr → (rowPs ps (look (.obj rr)) π).length ≤ (fillPs ps rr).length := by
  intro n
  induction n with
  | zero =>
    intro ps rr π h hf
    cases ps with
    | nil => simp [rowPs]
    | cons q ps => rw [hgs] at h; omega
  | succ n ih =>
    intro ps rr π h hf
    induction ps with
    | nil => simp [rowPs]
    | cons p ps ihp =>
      rw [hgs] at h
      rw [FitAll] at hf
      rw [rowPs, fillPs, List.length_append, List.length_append]
      have := ihp (by omega) hf.2
      have key : (rowP p (look (.obj rr)) π).length ≤ (fillP p rr).length := by
        cases p with
        | text s => simp [rowP, fillP]
        | field m =>
          obtain ⟨v, e, f⟩ := hf.1 rfl
          rw [FitV] at f
          obtain ⟨w, rfl, hw⟩ := f
          simp only [nm] at e
          simp only [overB, Bool.and_eq_true, decide_eq_true_eq] at hw
          simp only [rowP, fillP, e, List.length_cons, List.length_nil]
          omega
        | opt m qs =>
          obtain ⟨v, e, f⟩ := hf.1 rfl
          simp only [nm] at e
          have el : look (.obj rr) m = some v := e
          rw [FitV] at f
          rcases f with rfl | ⟨q, rfl, hq⟩
          · simp [rowP, el]
          · simp only [rowP, fillP, el, e]
            exact ih qs q _ (by simp only [hgP] at h; omega) hq.2
        | rep m s qs =>
          obtain ⟨v, e, f⟩ := hf.1 rfl
          simp only [nm] at e
          have el : look (.obj rr) m = some v := e
          rw [FitV] at f
          obtain ⟨rs, rfl, _, hr⟩ := f
          simp only [rowP, fillP, el, e]
          rw [← tailJ_join]
          have go : ∀ (rs : List Rv) (k : Nat), (∀ x ∈ rs, ∃ q, x = .obj q ∧ FitR qs q) → (items (fun x i => rowPs qs (look x) (π ++ [.s m, .i i])) (s.map .ch) k rs).length ≤ (tailJ s k (rs.map fun x => match x with | .obj q => fillPs qs q | _ => [])).length := fun rs => by
            induction rs with
            | nil => intro k _; simp [items]
            | cons x rs ihr =>
              intro k hx
              obtain ⟨q, rfl, hq⟩ := hx x List.mem_cons_self
              have h1 := ihr (k + 1) fun y hy => hx y (List.mem_cons_of_mem _ hy)
              have h2 := ih qs q (π ++ [.s m, .i k]) (by simp only [hgP] at h; omega) hq.2
              rw [items, List.map_cons, tailJ]
              simp only [List.length_append]
              have h3 : (if 0 < k then s.map El.ch else []).length = (if 0 < k then s else []).length := by split <;> simp
              omega
          exact go rs 0 hr
      omega
theorem row_of_spec (fuel : Nat) : ∀ (r d : Nat) (ps : List Pt) (m : Nat), d ≤ 3 → goodPs d ps = true → hgs ps + 1 ≤ r → m + 2 * r ≤ 100 → RowC (F_row_of r) fuel ps m
  | 0, _, _, _, _, _, h, _ => by omega
  | r + 1, d, ps, m, hd, hg, h, hm => by
    intro rr π hf hπ
    show defD [] 7 (B_row_of (F_row_of r)) fuel [.val (.tup (encs ps)), .val (.dic 0 (encR rr)), .val (dPath π)] = _
    obtain ⟨g1, g2, g3, g4⟩ := good_parts hg
    have hL := (fill_len d).1 ps rr hg hf
    have hb := bnd3 hd
    have hR := row_le (hgs ps) ps rr π (Nat.le_refl _) hf.2
    obtain ⟨y, y5, y6, el⟩ := row_loop (c0 := F_row_of r) (fuel := fuel) (rr := rr) (d := d) (π := π) (by omega) (.val (.tup (encs ps))) ps (fun p hp ht hf2 =>
      row_of_spec fuel r (d - 1) (inn p) (π.length + 2) (by omega) (good_inn (List.all_eq_true.mp g3 p hp) ht hf2) (by have := hgs_mem hp; rw [hgs_inn] at this; omega) (by omega)) g3 hf.2 [] .emp .emp .emp (by unfold Ln; simp; omega)
    rw [List.nil_append] at el
    simp [defD, ownIx, B_row_of, sSeq, sSetO, oLst, aNil, R.bind, toOut, sFor, iSeq, vGet, List.replicate]
    simp [el, sRet, vGetF, dOf, lft, R.bind, toOut, DL.finish, outsOf]
/-! ### sample records -/
abbrev Rec := List (List Nat × Rv)
def optVals (L : List (Nat × Rec)) : List (Nat × Rv) := (0, .none) :: L.map fun x => (1 + x.1, .obj x.2)
def repVals (L : List (Nat × Rec)) : List (Nat × Rv) := ((0, .recs []) :: L.map fun x => (1 + x.1, .recs [.obj x.2])) ++ L.flatMap fun x => L.map fun y => (2 + x.1 + y.1, .recs [.obj x.2, .obj y.2])
def ext1 (n : List Nat) (V : List (Nat × Rv)) (acc : List (Nat × Rec)) : List (Nat × Rec) := acc.flatMap fun x => V.map fun y => (x.1 + y.1, x.2 ++ [(n, y.2)])
mutual
def valsP : Pt → List (Nat × Rv)
  | .text _ => []
  | .field _ => [(1, .word [97])]
  | .opt _ ps => optVals (shapesA ps [(0, [])])
  | .rep _ _ ps => repVals (shapesA ps [(0, [])])
def shapesA : List Pt → List (Nat × Rec) → List (Nat × Rec)
  | [], acc => acc
  | p :: ps, acc => shapesA ps (if isText p = true then acc else ext1 (nm p) (valsP p) acc)
end
def shapesC (ps : List Pt) : List (Nat × Rec) := shapesA ps [(0, [])]
def encS (x : Nat × Rec) : D := .tup [.int x.1, .dic 0 (encR x.2)]
def encW (x : Nat × Rv) : D := .tup [.int x.1, encV x.2]
/-! how many there are -/
def fcap : Nat → Nat
  | 0 => 1
  | k + 1 => 1 + fcap k + fcap k * fcap k
theorem fcap_mul : ∀ a < 5, ∀ b < 5, a + b ≤ 4 → fcap a * fcap b ≤ fcap (a + b) := by decide
theorem fcap_pos (k : Nat) : 1 ≤ fcap k := by cases k <;> simp [fcap]; omega
theorem fcap_le {k : Nat} (h : k ≤ 4) : fcap k ≤ 33673 := by
  have h5 : k = 0 ∨ k = 1 ∨ k = 2 ∨ k = 3 ∨ k = 4 := by omega
  rcases h5 with rfl | rfl | rfl | rfl | rfl <;> decide
def secP (p : Pt) : Nat := (if (inn p).isEmpty then 0 else 1) + (mcP p).2
theorem sec_cons (p : Pt) (ps : List Pt) : (mcs (p :: ps)).2 = secP p + (mcs ps).2 := by rw [mcs_cons]; unfold secP; rfl
theorem ext1_len (n : List Nat) (V : List (Nat × Rv)) (acc : List (Nat × Rec)) : (ext1 n V acc).length = acc.length * V.length := by
  unfold ext1
  induction acc with
  | nil => simp
  | cons x acc ih => rw [List.flatMap_cons, List.length_append, ih, List.length_map, List.length_cons, Nat.succ_mul]; omega
theorem optVals_len (L : List (Nat × Rec)) : (optVals L).length = 1 + L.length := by simp [optVals]; omega
theorem repVals_len (L : List (Nat × Rec)) : (repVals L).length = 1 + L.length + L.length * L.length := by
  unfold repVals
  rw [List.length_append, List.length_cons, List.length_map]
  have : ∀ M : List (Nat × Rec), (M.flatMap fun x => L.map fun y => ((2 + x.1 + y.1, .recs [.obj x.2, .obj y.2]) : Nat × Rv)).length = M.length * L.length := fun M => by
    induction M with
    | nil => simp
    | cons x M ih => rw [List.flatMap_cons, List.length_append, ih, List.length_map, List.length_cons, Nat.succ_mul]; omega
  rw [this]; omega
theorem shapes_len : ∀ n : Nat, (∀ (d : Nat) (ps : List Pt) (acc : List (Nat × Rec)) (a : Nat), hgs ps ≤ n → ps.all (goodP d) = true → a + (mcs ps).2 ≤ 4 → acc.length ≤ fcap a → (shapesA ps acc).length ≤ fcap (a + (mcs ps).2)) := by
  intro n
  induction n with
  | zero =>
    intro d ps acc a h _ _ ha
    cases ps with
    | nil => simpa [shapesA, mcs] using ha
    | cons p ps => rw [hgs] at h; omega
  | succ n ih =>
    have val : ∀ (d : Nat) (p : Pt), hgP p ≤ n → goodP d p = true → secP p ≤ 4 → isText p = false → (valsP p).length ≤ fcap (secP p) := fun d p h hg hs ht => by
      cases p with
      | text s => simp [isText] at ht
      | field m => simp [valsP, secP, inn, mcP, fcap]
      | opt m qs =>
        have gi := good_inn hg rfl rfl
        obtain ⟨q1, q2, q3, q4⟩ := good_parts gi
        simp only [inn] at q1 q3
        have hne : qs.isEmpty = false := by cases qs with
          | nil => simp at q1
          | cons a b => rfl
        have hsec : secP (.opt m qs) = 1 + (mcs qs).2 := by simp [secP, inn, mcP, hne]
        have := ih (d - 1) qs [(0, [])] 0 (by simpa [hgP] using h) q3 (by omega) (by simp [fcap])
        rw [valsP, optVals_len, hsec]
        rw [Nat.zero_add] at this
        rw [Nat.add_comm 1 (mcs qs).2, fcap]
        omega
      | rep m s qs =>
        have gi := good_inn hg rfl rfl
        obtain ⟨q1, q2, q3, q4⟩ := good_parts gi
        simp only [inn] at q1 q3
        have hne : qs.isEmpty = false := by cases qs with
          | nil => simp at q1
          | cons a b => rfl
        have hsec : secP (.rep m s qs) = 1 + (mcs qs).2 := by simp [secP, inn, mcP, hne]
        have := ih (d - 1) qs [(0, [])] 0 (by simpa [hgP] using h) q3 (by omega) (by simp [fcap])
        rw [valsP, repVals_len, hsec]
        rw [Nat.zero_add] at this
        rw [Nat.add_comm 1 (mcs qs).2, fcap]
        have := Nat.mul_le_mul this this
        omega
    intro d ps
    induction ps with
    | nil => intro acc a _ _ _ ha; simpa [shapesA, mcs] using ha
    | cons p ps ihp =>
      intro acc a h hg hs ha
      rw [hgs] at h
      rw [List.all_cons, Bool.and_eq_true] at hg
      rw [sec_cons] at hs ⊢
      rw [shapesA]
      by_cases ht : isText p = true
      · rw [if_pos ht]
        have h0 : secP p = 0 := by cases p <;> simp [isText, secP, inn, mcP] at ht ⊢
        rw [h0, Nat.zero_add] at hs ⊢
        exact ihp acc a (by omega) hg.2 hs ha
      · rw [if_neg ht]
        have hv := val d p (by omega) hg.1 (by omega) (by simpa using ht)
        have hm := Nat.mul_le_mul ha hv
        have hf := fcap_mul a (by omega) (secP p) (by omega) (by omega)
        have := ihp (ext1 (nm p) (valsP p) acc) (a + secP p) (by omega) hg.2 (by omega) (by rw [ext1_len]; omega)
        rwa [Nat.add_assoc] at this
theorem with_value_spec (fuel : Nat) (q : Rec) (n : List Nat) (v : Rv) (hn : n ∉ q.map (·.1)) (hl : q.length < Ln) : F_with_value fuel [.val (.dic 0 (encR q)), .val (.str n), .val (encV v)] = .reto (.d 0 (encR (q ++ [(n, v)]))) [] := by
  have e := dput_new (v := v) hn
  simp [F_with_value, defD, ownIx, B_with_value, sSeq, sSetO, oDict, vGet, R.bind, toOut, sDPutD, fitK_str, encR_len, hl, e, sRetO, oMove, DL.finish, outsOf, List.replicate]
section
variable {c0 c1 : Nat → List Sl → Res} {fuel : Nat}
theorem lc_pairs (i j k : Nat) (f : DS → R (D × DS)) (ds : DS) (L : List (Nat × Rec)) (F : Nat × Rec → D) (hn : noOwn [j, k] ds = true)
    (h : ∀ x ∈ L, ∃ ds3, f ((((ds.set j .emp).set k .emp).set j (.val (.int x.1))).set k (.val (.dic 0 (encR x.2)))) = .ok (F x, ds3) ∧ backD [j, k] ds ds3 = ds) : lcD [j, k] (gTupD 2 (gConsD (gSet j) (gConsD (gSet k) gNilD))) bYes f (L.map encS) ds = .ok (L.map F, ds) := by
  refine lcD_map encS F hn L fun x hx => ?_
  obtain ⟨ds3, h1, h2⟩ := h x hx
  exact ⟨_, ds3, rfl, h1, h2⟩
theorem values_opt {n : List Nat} {ps : List Pt} {L : List (Nat × Rec)} (hc : c1 fuel [.val (.tup (encs ps))] = .ret (.lst (L.map encS)) []) (hl : 1 + L.length ≤ Ln) : defD [] 7 (B_values_of c0 c1) fuel [.val (enc (.opt n ps))] = .ret (.lst ((optVals L).map encW)) [] := by
  have gl : dGetI (enc (.opt n ps)) (.int (-1)) = some (.tup (encs ps)) := rfl
  have e1 : sAsg (fCallF (c1 fuel) (aaVal (fBin dGetI (vGet 0) (fUn dNeg (vC (.int 1)))) (aaNil))) (gSet 1) [.val (enc (.opt n ps)), .emp, .emp, .emp, .emp, .emp, .emp] = .nx [.val (enc (.opt n ps)), .val (.lst (L.map encS)), .emp, .emp, .emp, .emp, .emp] := by
    simp only [sAsg, fCallF, aaVal, aaNil, fBin, vGet, vC, fUn, dNeg, List.getElem?_cons_zero, R.bind_ok, lft_some, gl, asOf, idxOf, Option.map_some, hc, List.nodup_nil, if_true, putCs, toOut_ok, gSet_app, List.set_cons_succ, List.set_cons_zero]
  have e2 : lcD [3, 4] (gTupD 2 (gConsD (gSet 3) (gConsD (gSet 4) (gNilD)))) bYes (mkTup (aCons (fBin dAdd (vC (.int 1)) (vGet 3)) (aCons (vGet 4) (aNil)))) (L.map encS) [.val (enc (.opt n ps)), .val (.lst (L.map encS)), .emp, .emp, .emp, .emp, .emp] = .ok (L.map fun x => encW (1 + x.1, .obj x.2), [.val (enc (.opt n ps)), .val (.lst (L.map encS)), .emp, .emp, .emp, .emp, .emp]) :=
    lc_pairs 0 3 4 _ _ L _ rfl fun x _ => ⟨[.val (enc (.opt n ps)), .val (.lst (L.map encS)), .emp, .val (.int x.1), .val (.dic 0 (encR x.2)), .emp, .emp], mk2 _ _ _ _ _ _ _ (by simp only [List.set_cons_succ, List.set_cons_zero, fBin, vC, vGet, List.getElem?_cons_succ, List.getElem?_cons_zero, R.bind_ok, add_int, lft_some]; rfl) (by simp only [vGet, List.getElem?_cons_succ, List.getElem?_cons_zero, encV]), rfl⟩
  show DL.finish [] (B_values_of c0 c1 fuel [.val (enc (.opt n ps)), .emp, .emp, .emp, .emp, .emp, .emp]) = _
  have e0 : mkLst (aCons (mkTup (aCons (vC (.int 0)) (aCons (vC .non) (aNil)))) (aNil)) [.val (enc (.opt n ps)), .val (.lst (L.map encS)), .emp, .emp, .emp, .emp, .emp] = .ok (.lst [.tup [.int 0, .non]], [.val (enc (.opt n ps)), .val (.lst (L.map encS)), .emp, .emp, .emp, .emp, .emp]) := by
    have h1 : ([.tup [.int 0, .non]] : List D).length ≤ Ln := by show 1 ≤ Ln; decide
    have h2 : ([.int 0, .non] : List D).length ≤ Ln := by show 2 ≤ Ln; decide
    simp only [mkLst, mkTup, aCons, aNil, vC, R.bind_ok, h1, h2, if_true]
  have ea : dAdd (.lst [.tup [.int 0, .non]]) (.lst (L.map fun x => encW (1 + x.1, .obj x.2))) = some (.lst ((optVals L).map encW)) := by
    unfold dAdd
    dsimp only
    rw [if_pos (by simp only [List.length_cons, List.length_nil, List.length_map]; omega)]
    unfold optVals
    rw [List.map_cons, List.map_map]
    rfl
  have st : B_values_of_i0 c0 c1 fuel [.val (enc (.opt n ps)), .val (.lst (L.map encS)), .emp, .emp, .emp, .emp, .emp] = .rt (.lst ((optVals L).map encW)) [.val (enc (.opt n ps)), .val (.lst (L.map encS)), .emp, .emp, .emp, .emp, .emp] := by
    rw [B_values_of_i0, sRet, fBin, e0]
    simp only [R.bind_ok, ofO, oLc, iSeq, vGet, List.getElem?_cons_succ, List.getElem?_cons_zero, e2, dOf, lft_some, ea, toOut_ok]
  rw [B_values_of, sSeq_nx (ds' := [.val (enc (.opt n ps)), .emp, .emp, .emp, .emp, .emp, .emp]) (by rw [sIf_f (test_kind 0 (p := .opt n ps) rfl _)]; rfl), sSeq_nx e1]
  unfold sSeq
  rw [sIf_t (test_kind 0 (p := .opt n ps) rfl _), st]
  rfl
theorem rep_loop {x0 : Sl} {L : List (Nat × Rec)} : ∀ (M : List (Nat × Rec)) (acc : List D) (x3 x4 : Sl), acc.length + M.length * L.length ≤ Ln → ∃ y3 y4, forD (gTupD 2 (gConsD (gSet 3) (gConsD (gSet 4) (gNilD)))) (B_values_of_f1 c0 c1 fuel) (M.map encS) [x0, .val (.lst (L.map encS)), .own (.l acc), x3, x4, .emp, .emp]
    = .nx [x0, .val (.lst (L.map encS)), .own (.l (acc ++ (M.flatMap fun x => L.map fun y => ((2 + x.1 + y.1, .recs [.obj x.2, .obj y.2]) : Nat × Rv)).map encW)), y3, y4, .emp, .emp]
  | [], acc, x3, x4, _ => ⟨x3, x4, by simp [forD]⟩
  | x :: M, acc, x3, x4, hl => by
    rw [List.length_cons, Nat.succ_mul] at hl
    have e2 : lcD [5, 6] (gTupD 2 (gConsD (gSet 5) (gConsD (gSet 6) (gNilD)))) (bYes) (mkTup (aCons (fBin dAdd (fBin dAdd (vC (.int 2)) (vGet 3)) (vGet 5)) (aCons (mkLst (aCons (vGet 4) (aCons (vGet 6) (aNil)))) (aNil)))) (L.map encS) [x0, .val (.lst (L.map encS)), .own (.l acc), .val (.int x.1), .val (.dic 0 (encR x.2)), .emp, .emp] = .ok (L.map fun y => encW (2 + x.1 + y.1, .recs [.obj x.2, .obj y.2]), [x0, .val (.lst (L.map encS)), .own (.l acc), .val (.int x.1), .val (.dic 0 (encR x.2)), .emp, .emp]) :=
      lc_pairs 0 5 6 _ _ L _ rfl fun y _ => ⟨[x0, .val (.lst (L.map encS)), .own (.l acc), .val (.int x.1), .val (.dic 0 (encR x.2)), .val (.int y.1), .val (.dic 0 (encR y.2))], mk2 _ _ _ _ _ _ _ (by simp only [List.set_cons_succ, List.set_cons_zero, fBin, vC, vGet, List.getElem?_cons_succ, List.getElem?_cons_zero, R.bind_ok, add_int, lft_some]; rfl) (by
        have h2 : ([.dic 0 (encR x.2), .dic 0 (encR y.2)] : List D).length ≤ Ln := by show 2 ≤ Ln; decide
        simp only [mkLst, aCons, aNil, vGet, List.getElem?_cons_succ, List.getElem?_cons_zero, R.bind_ok, h2, if_true, encV, encVs]), rfl⟩
    have b1 : B_values_of_f1 c0 c1 fuel [x0, .val (.lst (L.map encS)), .own (.l acc), .val (.int x.1), .val (.dic 0 (encR x.2)), .emp, .emp] = .nx [x0, .val (.lst (L.map encS)), .own (.l (acc ++ L.map fun y => encW (2 + x.1 + y.1, .recs [.obj x.2, .obj y.2]))), .val (.int x.1), .val (.dic 0 (encR x.2)), .emp, .emp] := by
      unfold B_values_of_f1
      refine (sExt_ok (xs := acc) (ys := L.map fun y => encW (2 + x.1 + y.1, .recs [.obj x.2, .obj y.2])) rfl ?_ (by rw [List.length_map]; omega)).trans rfl
      simp only [ofO, oLc, iSeq, vGet, List.getElem?_cons_succ, List.getElem?_cons_zero, R.bind_ok, e2, dOf, lft_some]
    obtain ⟨y3, y4, ih⟩ := rep_loop (x0 := x0) (L := L) M (acc ++ L.map fun y => encW (2 + x.1 + y.1, .recs [.obj x.2, .obj y.2])) (.val (.int x.1)) (.val (.dic 0 (encR x.2))) (by rw [List.length_append, List.length_map]; omega)
    refine ⟨y3, y4, ?_⟩
    rw [List.map_cons, forD]
    have tg : gTupD 2 (gConsD (gSet 3) (gConsD (gSet 4) gNilD)) (encS x) [x0, .val (.lst (L.map encS)), .own (.l acc), x3, x4, .emp, .emp] = some [x0, .val (.lst (L.map encS)), .own (.l acc), .val (.int x.1), .val (.dic 0 (encR x.2)), .emp, .emp] := rfl
    rw [tg]
    simp only [b1, loopK]
    rw [ih, List.flatMap_cons, List.map_append, List.map_map, List.append_assoc]
    rfl
theorem values_rep {n s : List Nat} {ps : List Pt} {L : List (Nat × Rec)} (hc : c1 fuel [.val (.tup (encs ps))] = .ret (.lst (L.map encS)) []) (hl : 1 + L.length + L.length * L.length ≤ Ln) : defD [] 7 (B_values_of c0 c1) fuel [.val (enc (.rep n s ps))] = .ret (.lst ((repVals L).map encW)) [] := by
  have gl : dGetI (enc (.rep n s ps)) (.int (-1)) = some (.tup (encs ps)) := rfl
  have e1 : sAsg (fCallF (c1 fuel) (aaVal (fBin dGetI (vGet 0) (fUn dNeg (vC (.int 1)))) (aaNil))) (gSet 1) [.val (enc (.rep n s ps)), .emp, .emp, .emp, .emp, .emp, .emp] = .nx [.val (enc (.rep n s ps)), .val (.lst (L.map encS)), .emp, .emp, .emp, .emp, .emp] := by
    simp only [sAsg, fCallF, aaVal, aaNil, fBin, vGet, vC, fUn, dNeg, List.getElem?_cons_zero, R.bind_ok, lft_some, gl, asOf, idxOf, Option.map_some, hc, List.nodup_nil, if_true, putCs, toOut_ok, gSet_app, List.set_cons_succ, List.set_cons_zero]
  have e2 : lcD [3, 4] (gTupD 2 (gConsD (gSet 3) (gConsD (gSet 4) (gNilD)))) bYes (mkTup (aCons (fBin dAdd (vC (.int 1)) (vGet 3)) (aCons (mkLst (aCons (vGet 4) aNil)) (aNil)))) (L.map encS) [.val (enc (.rep n s ps)), .val (.lst (L.map encS)), .emp, .emp, .emp, .emp, .emp] = .ok (L.map fun x => encW (1 + x.1, .recs [.obj x.2]), [.val (enc (.rep n s ps)), .val (.lst (L.map encS)), .emp, .emp, .emp, .emp, .emp]) :=
    lc_pairs 0 3 4 _ _ L _ rfl fun x _ => ⟨[.val (enc (.rep n s ps)), .val (.lst (L.map encS)), .emp, .val (.int x.1), .val (.dic 0 (encR x.2)), .emp, .emp], mk2 _ _ _ _ _ _ _ (by simp only [List.set_cons_succ, List.set_cons_zero, fBin, vC, vGet, List.getElem?_cons_succ, List.getElem?_cons_zero, R.bind_ok, add_int, lft_some]; rfl) (by
      have h2 : ([.dic 0 (encR x.2)] : List D).length ≤ Ln := by show 1 ≤ Ln; decide
      simp only [mkLst, aCons, aNil, vGet, List.getElem?_cons_succ, List.getElem?_cons_zero, R.bind_ok, h2, if_true, encV, encVs]), rfl⟩
  have e0 : mkLst (aCons (mkTup (aCons (vC (.int 0)) (aCons (mkLst aNil) (aNil)))) (aNil)) [.val (enc (.rep n s ps)), .val (.lst (L.map encS)), .emp, .emp, .emp, .emp, .emp] = .ok (.lst [.tup [.int 0, .lst []]], [.val (enc (.rep n s ps)), .val (.lst (L.map encS)), .emp, .emp, .emp, .emp, .emp]) := by
    have h0 : ([] : List D).length ≤ Ln := by show 0 ≤ Ln; decide
    have h1 : ([.tup [.int 0, .lst []]] : List D).length ≤ Ln := by show 1 ≤ Ln; decide
    have h2 : ([.int 0, .lst []] : List D).length ≤ Ln := by show 2 ≤ Ln; decide
    simp only [mkLst, mkTup, aCons, aNil, vC, R.bind_ok, h0, h1, h2, if_true]
  have e3 : oAddL (mkLst (aCons (mkTup (aCons (vC (.int 0)) (aCons (mkLst aNil) (aNil)))) (aNil))) (ofO (oLc [3, 4] (iSeq (vGet 1)) (gTupD 2 (gConsD (gSet 3) (gConsD (gSet 4) (gNilD)))) (bYes) (mkTup (aCons (fBin dAdd (vC (.int 1)) (vGet 3)) (aCons (mkLst (aCons (vGet 4) (aNil))) (aNil)))))) [.val (enc (.rep n s ps)), .val (.lst (L.map encS)), .emp, .emp, .emp, .emp, .emp] = .ok (.l (((0, .recs []) :: L.map fun x => ((1 + x.1, .recs [.obj x.2]) : Nat × Rv)).map encW), [.val (enc (.rep n s ps)), .val (.lst (L.map encS)), .emp, .emp, .emp, .emp, .emp]) := by
    unfold oAddL
    rw [e0]
    simp only [R.bind_ok, ofO, oLc, iSeq, vGet, List.getElem?_cons_succ, List.getElem?_cons_zero, e2, dOf, lft_some]
    rw [if_pos (by simp only [List.length_cons, List.length_nil, List.length_map]; omega)]
    rw [List.map_cons, List.map_map]
    rfl
  show DL.finish [] (B_values_of c0 c1 fuel [.val (enc (.rep n s ps)), .emp, .emp, .emp, .emp, .emp, .emp]) = _
  obtain ⟨y3, y4, el⟩ := rep_loop (c0 := c0) (c1 := c1) (fuel := fuel) (x0 := .val (enc (.rep n s ps))) (L := L) L (((0, .recs []) :: L.map fun x => ((1 + x.1, .recs [.obj x.2]) : Nat × Rv)).map encW) .emp .emp (by simp only [List.length_cons, List.length_map]; omega)
  rw [B_values_of, sSeq_nx (ds' := [.val (enc (.rep n s ps)), .emp, .emp, .emp, .emp, .emp, .emp]) (by rw [sIf_f (test_kind 0 (p := .rep n s ps) rfl _)]; rfl), sSeq_nx e1,
    sSeq_nx (ds' := [.val (enc (.rep n s ps)), .val (.lst (L.map encS)), .emp, .emp, .emp, .emp, .emp]) (by rw [sIf_f (test_kind 0 (p := .rep n s ps) rfl _)]; rfl),
    sSeq_nx (ds' := [.val (enc (.rep n s ps)), .val (.lst (L.map encS)), .own (.l (((0, .recs []) :: L.map fun x => ((1 + x.1, .recs [.obj x.2]) : Nat × Rv)).map encW)), .emp, .emp, .emp, .emp]) (by unfold sSetO; rw [e3]; rfl),
    sSeq_nx (by unfold sFor; simp only [iSeq, vGet, List.getElem?_cons_succ, List.getElem?_cons_zero, R.bind_ok, toOut_ok]; exact el)]
  simp only [sRet, vGetF, List.getElem?_cons_succ, List.getElem?_cons_zero, dOf, lft_some, R.bind_ok, toOut_ok, ← List.map_append]
  rfl
def DoneK (done : List (List Nat)) (acc : List (Nat × Rec)) : Prop := ∀ x ∈ acc, x.2.map (·.1) = done
theorem shapes_loop1 {x0 x1 x3' : Sl} {p : Pt} {V : List (Nat × Rv)} {done : List (List Nat)} (hn : nm p ∉ done) (hd : done.length < 1000) : ∀ (M : List (Nat × Rec)) (acc : List D) (x5 x6 : Sl), DoneK done M → acc.length + M.length * V.length ≤ Ln → ∃ y5 y6, forD (gTupD 2 (gConsD (gSet 5) (gConsD (gSet 6) (gNilD)))) (B_shapes_f0 c0 c1 fuel) (M.map encS) [x0, x1, .val (enc p), .val (.lst (V.map encW)), .own (.l acc), x5, x6, .emp, .emp]
    = .nx [x0, x1, .val (enc p), .val (.lst (V.map encW)), .own (.l (acc ++ (ext1 (nm p) V M).map encS)), y5, y6, .emp, .emp]
  | [], acc, x5, x6, _, _ => ⟨x5, x6, by simp [forD, ext1]⟩
  | x :: M, acc, x5, x6, hk, hl => by
    rw [List.length_cons, Nat.succ_mul] at hl
    have hx := hk x List.mem_cons_self
    have hlen : x.2.length < Ln := by have := congrArg List.length hx; rw [List.length_map] at this; unfold Ln; omega
    have e2 : lcD [7, 8] (gTupD 2 (gConsD (gSet 7) (gConsD (gSet 8) (gNilD)))) (bYes) (mkTup (aCons (fBin dAdd (vGet 5) (vGet 7)) (aCons (fCallF (F_with_value fuel) (aaVal (vGet 6) (aaVal (fBin dGetI (vGet 2) (vC (.int 1))) (aaVal (vGet 8) (aaNil))))) (aNil)))) (V.map encW) [x0, x1, .val (enc p), .val (.lst (V.map encW)), .own (.l acc), .val (.int x.1), .val (.dic 0 (encR x.2)), .emp, .emp] = .ok (V.map fun y => encS (x.1 + y.1, x.2 ++ [(nm p, y.2)]), [x0, x1, .val (enc p), .val (.lst (V.map encW)), .own (.l acc), .val (.int x.1), .val (.dic 0 (encR x.2)), .emp, .emp]) := by
      refine lcD_map encW _ rfl V fun y _ => ⟨[x0, x1, .val (enc p), .val (.lst (V.map encW)), .own (.l acc), .val (.int x.1), .val (.dic 0 (encR x.2)), .val (.int y.1), .val (encV y.2)], [x0, x1, .val (enc p), .val (.lst (V.map encW)), .own (.l acc), .val (.int x.1), .val (.dic 0 (encR x.2)), .val (.int y.1), .val (encV y.2)], rfl, ?_, rfl⟩
      have wv := with_value_spec fuel x.2 (nm p) y.2 (by rw [hx]; exact hn) hlen
      refine mk2 _ _ _ [x0, x1, .val (enc p), .val (.lst (V.map encW)), .own (.l acc), .val (.int x.1), .val (.dic 0 (encR x.2)), .val (.int y.1), .val (encV y.2)] _ _ _ (by simp only [fBin, vGet, List.getElem?_cons_succ, List.getElem?_cons_zero, R.bind_ok, add_int, lft_some]; rfl) ?_
      simp only [fCallF, aaVal, aaNil, vGet, List.getElem?_cons_succ, List.getElem?_cons_zero, R.bind_ok, get_nm 2 (p := p) (ds := [x0, x1, .val (enc p), .val (.lst (V.map encW)), .own (.l acc), .val (.int x.1), .val (.dic 0 (encR x.2)), .val (.int y.1), .val (encV y.2)]) rfl, asOf, idxOf, Option.map_some, wv, List.nodup_nil, if_true, putCs, dOf, lft_some]
    have b1 : B_shapes_f0 c0 c1 fuel [x0, x1, .val (enc p), .val (.lst (V.map encW)), .own (.l acc), .val (.int x.1), .val (.dic 0 (encR x.2)), .emp, .emp] = .nx [x0, x1, .val (enc p), .val (.lst (V.map encW)), .own (.l (acc ++ V.map fun y => encS (x.1 + y.1, x.2 ++ [(nm p, y.2)]))), .val (.int x.1), .val (.dic 0 (encR x.2)), .emp, .emp] := by
      unfold B_shapes_f0
      refine (sExt_ok (xs := acc) (ys := V.map fun y => encS (x.1 + y.1, x.2 ++ [(nm p, y.2)])) rfl ?_ (by rw [List.length_map]; omega)).trans rfl
      simp only [ofO, oLc, iSeq, vGet, List.getElem?_cons_succ, List.getElem?_cons_zero, R.bind_ok, e2, dOf, lft_some]
    obtain ⟨y5, y6, ih⟩ := shapes_loop1 (x0 := x0) (x1 := x1) (x3' := x3') (V := V) hn hd M (acc ++ V.map fun y => encS (x.1 + y.1, x.2 ++ [(nm p, y.2)])) (.val (.int x.1)) (.val (.dic 0 (encR x.2))) (fun z hz => hk z (List.mem_cons_of_mem _ hz)) (by rw [List.length_append, List.length_map]; omega)
    refine ⟨y5, y6, ?_⟩
    rw [List.map_cons, forD]
    have tg : gTupD 2 (gConsD (gSet 5) (gConsD (gSet 6) gNilD)) (encS x) [x0, x1, .val (enc p), .val (.lst (V.map encW)), .own (.l acc), x5, x6, .emp, .emp] = some [x0, x1, .val (enc p), .val (.lst (V.map encW)), .own (.l acc), .val (.int x.1), .val (.dic 0 (encR x.2)), .emp, .emp] := rfl
    rw [tg]
    simp only [b1, loopK]
    rw [ih]
    unfold ext1
    rw [List.flatMap_cons, List.map_append, List.map_map, List.append_assoc]
    rfl
theorem ext1_done {n : List Nat} {V : List (Nat × Rv)} {done : List (List Nat)} {acc : List (Nat × Rec)} (h : DoneK done acc) : DoneK (done ++ [n]) (ext1 n V acc) := fun x hx => by
  unfold ext1 at hx
  obtain ⟨y, hy, hx⟩ := List.mem_flatMap.mp hx
  obtain ⟨z, _, rfl⟩ := List.mem_map.mp hx
  simp [h y hy]
theorem shapes_loop {x0 : Sl} : ∀ (ps : List Pt), (∀ p ∈ ps, isText p = false → c0 fuel [.val (enc p)] = .ret (.lst ((valsP p).map encW)) []) → ∀ (done : List (List Nat)) (acc : List (Nat × Rec)) (x2 x3 x4 x5 x6 : Sl), DoneK done acc → (done ++ names ps).Nodup → (done ++ names ps).length < 1000 → (∀ qs rs, ps = qs ++ rs → (shapesA qs acc).length ≤ Ln) →
    ∃ y2 y3 y4 y5 y6, forD (gSet 2) (sIf (toB (fBin dNe (fBin dGetI (vGet 2) (vC (.int 0))) (vC (.str [116, 101, 120, 116])))) (B_shapes_i1 c0 c1 fuel) (sNx)) (encs ps) [x0, .val (.lst (acc.map encS)), x2, x3, x4, x5, x6, .emp, .emp] = .nx [x0, .val (.lst ((shapesA ps acc).map encS)), y2, y3, y4, y5, y6, .emp, .emp]
  | [], _, done, acc, x2, x3, x4, x5, x6, _, _, _, _ => ⟨x2, x3, x4, x5, x6, by simp [encs, forD, shapesA]⟩
  | p :: ps, h0, done, acc, x2, x3, x4, x5, x6, hk, hnd, hdl, hl => by
    have tk : toB (fBin dNe (fBin dGetI (vGet 2) (vC (.int 0))) (vC (.str [116, 101, 120, 116]))) [x0, .val (.lst (acc.map encS)), .val (enc p), x3, x4, x5, x6, .emp, .emp] = .ok (!isText p, [x0, .val (.lst (acc.map encS)), .val (enc p), x3, x4, x5, x6, .emp, .emp]) := by
      simp only [toB, fBin, vGet, vC, List.getElem?_cons_succ, List.getElem?_cons_zero, R.bind_ok, enc_0, lft_some, ne_str, kind_text]
      cases isText p <;> rfl
    rw [encs, forD]
    simp only [gSet_app, List.set_cons_succ, List.set_cons_zero]
    cases ht : isText p with
    | true =>
      rw [ht] at tk
      obtain ⟨y2, y3, y4, y5, y6, ih⟩ := shapes_loop (x0 := x0) ps (fun q hq => h0 q (List.mem_cons_of_mem _ hq)) done acc (.val (enc p)) x3 x4 x5 x6 hk (by rwa [names_cons, if_pos ht] at hnd) (by rwa [names_cons, if_pos ht] at hdl) (fun qs rs e => by
        have := hl (p :: qs) rs (by rw [e]; rfl)
        rwa [shapesA, if_pos ht] at this)
      refine ⟨y2, y3, y4, y5, y6, ?_⟩
      rw [sIf_f tk, shapesA, if_pos ht]
      simp only [sNx, loopK]
      exact ih
    | false =>
      rw [ht] at tk
      have hV := h0 p List.mem_cons_self ht
      rw [names_cons, if_neg (by simp [ht])] at hnd hdl
      have hn : nm p ∉ done := fun z => by
        rw [List.nodup_append] at hnd
        exact hnd.2.2 (nm p) z (nm p) List.mem_cons_self rfl
      have hl1 := hl [p] ps rfl
      rw [shapesA, if_neg (by simp [ht]), shapesA, ext1_len] at hl1
      obtain ⟨z5, z6, el⟩ := shapes_loop1 (c0 := c0) (c1 := c1) (fuel := fuel) (x0 := x0) (x1 := .val (.lst (acc.map encS))) (x3' := x3) (V := valsP p) hn (by rw [List.length_append] at hdl; omega) acc [] x5 x6 hk (by simpa using hl1)
      rw [List.nil_append] at el
      obtain ⟨y2, y3, y4, y5, y6, ih⟩ := shapes_loop (x0 := x0) ps (fun q hq => h0 q (List.mem_cons_of_mem _ hq)) (done ++ [nm p]) (ext1 (nm p) (valsP p) acc) (.val (enc p)) (.val (.lst ((valsP p).map encW))) (.val (.lst ((ext1 (nm p) (valsP p) acc).map encS))) z5 z6 (ext1_done hk) (by rw [List.append_assoc]; exact hnd) (by rw [List.append_assoc]; exact hdl) (fun qs rs e => by
        have := hl (p :: qs) rs (by rw [e]; rfl)
        rwa [shapesA, if_neg (by simp [ht])] at this)
      refine ⟨y2, y3, y4, y5, y6, ?_⟩
      have b1 : B_shapes_i1 c0 c1 fuel [x0, .val (.lst (acc.map encS)), .val (enc p), x3, x4, x5, x6, .emp, .emp] = .nx [x0, .val (.lst ((ext1 (nm p) (valsP p) acc).map encS)), .val (enc p), .val (.lst ((valsP p).map encW)), .val (.lst ((ext1 (nm p) (valsP p) acc).map encS)), z5, z6, .emp, .emp] := by
        have h00 : ([] : List D).length ≤ Ln := by show 0 ≤ Ln; decide
        rw [B_shapes_i1, sSeq_nx (ds' := [x0, .val (.lst (acc.map encS)), .val (enc p), .val (.lst ((valsP p).map encW)), x4, x5, x6, .emp, .emp]) (by
          simp only [sAsg, fCallF, aaVal, aaNil, vGet, List.getElem?_cons_succ, List.getElem?_cons_zero, R.bind_ok, asOf, idxOf, Option.map_some, hV, List.nodup_nil, if_true, putCs, toOut_ok, gSet_app, List.set_cons_succ, List.set_cons_zero]),
          sSeq_nx (ds' := [x0, .val (.lst (acc.map encS)), .val (enc p), .val (.lst ((valsP p).map encW)), .own (.l []), x5, x6, .emp, .emp]) (by
          simp only [sSetO, oLst, aNil, R.bind_ok, h00, if_true, toOut_ok, List.set_cons_succ, List.set_cons_zero]),
          sSeq_nx (by unfold sFor; simp only [iSeq, vGet, List.getElem?_cons_succ, List.getElem?_cons_zero, R.bind_ok, toOut_ok]; exact el)]
        simp only [sAsg, vGetF, List.getElem?_cons_succ, List.getElem?_cons_zero, dOf, lft_some, R.bind_ok, toOut_ok, gSet_app, List.set_cons_succ, List.set_cons_zero]
      rw [sIf_t tk, b1, shapesA, if_neg (by simp [ht])]
      simp only [loopK]
      exact ih
end
theorem mcs_app_le : ∀ (a b : List Pt), (mcs a).2 ≤ (mcs (a ++ b)).2
  | [], b => by simp [mcs]
  | p :: a, b => by rw [List.cons_append, sec_cons, sec_cons]; have := mcs_app_le a b; omega
theorem hgs_app_le : ∀ (a b : List Pt), hgs a ≤ hgs (a ++ b)
  | [], b => by simp [hgs]
  | p :: a, b => by rw [List.cons_append, hgs, hgs]; have := hgs_app_le a b; omega
theorem shapes_spec (fuel : Nat) : ∀ r : Nat, (∀ (d : Nat) (p : Pt), goodP d p = true → secP p ≤ 4 → isText p = false → 2 * hgP p + 2 ≤ r → G_values_of r 0 fuel [.val (enc p)] = .ret (.lst ((valsP p).map encW)) []) ∧
    (∀ (d : Nat) (ps : List Pt), goodPs d ps = true → (mcs ps).2 ≤ 4 → 2 * hgs ps + 1 ≤ r → G_values_of r 1 fuel [.val (.tup (encs ps))] = .ret (.lst ((shapesC ps).map encS)) [])
  | 0 => ⟨fun _ _ _ _ _ h => by omega, fun _ _ _ _ h => by omega⟩
  | r + 1 => by
    obtain ⟨i0, i1⟩ := shapes_spec fuel r
    have cap : ∀ (d : Nat) (ps : List Pt), goodPs d ps = true → (mcs ps).2 ≤ 4 → (shapesC ps).length ≤ fcap (mcs ps).2 := fun d ps hg hs => by
      have := shapes_len (hgs ps) d ps [(0, [])] 0 (Nat.le_refl _) (good_parts hg).2.2.1 (by omega) (by simp [fcap])
      rwa [Nat.zero_add] at this
    refine ⟨fun d p hg hs ht h => ?_, fun d ps hg hs h => ?_⟩
    · cases p with
      | text s => simp [isText] at ht
      | field n =>
        show defD [] 7 (B_values_of (G_values_of r 0) (G_values_of r 1)) fuel [.val (enc (.field n))] = _
        have h1 : ([.tup [.int 1, .str [97]]] : List D).length ≤ Ln := by show 1 ≤ Ln; decide
        show DL.finish [] (B_values_of (G_values_of r 0) (G_values_of r 1) fuel [.val (enc (.field n)), .emp, .emp, .emp, .emp, .emp, .emp]) = _
        unfold B_values_of sSeq
        rw [sIf_t (test_kind 0 (p := .field n) rfl _)]
        have h2 : ([.int 1, .str [97]] : List D).length ≤ Ln := by show 2 ≤ Ln; decide
        simp only [sRet, mkLst, mkTup, aCons, aNil, vC, R.bind_ok, h1, h2, if_true, toOut_ok, valsP, List.map_cons, List.map_nil, encW, encV]
        rfl
      | opt n ps =>
        have gi := good_inn hg rfl rfl
        simp only [inn] at gi
        have hne : ps.isEmpty = false := by
          have := (good_parts gi).1
          cases ps with
          | nil => simp at this
          | cons a b => rfl
        have hsec : secP (.opt n ps) = 1 + (mcs ps).2 := by simp [secP, inn, mcP, hne]
        simp only [hgP] at h
        have hc := i1 (d - 1) ps gi (by omega) (by omega)
        have hcp := cap (d - 1) ps gi (by omega)
        have := fcap_le (show (mcs ps).2 ≤ 4 by omega)
        exact values_opt (c0 := G_values_of r 0) (c1 := G_values_of r 1) (n := n) (L := shapesC ps) hc (by unfold Ln; omega)
      | rep n s ps =>
        have gi := good_inn hg rfl rfl
        simp only [inn] at gi
        have hne : ps.isEmpty = false := by
          have := (good_parts gi).1
          cases ps with
          | nil => simp at this
          | cons a b => rfl
        have hsec : secP (.rep n s ps) = 1 + (mcs ps).2 := by simp [secP, inn, mcP, hne]
        simp only [hgP] at h
        have hc := i1 (d - 1) ps gi (by omega) (by omega)
        have hcp := cap (d - 1) ps gi (by omega)
        have h3 := fcap_le (show (mcs ps).2 + 1 ≤ 4 by omega)
        rw [fcap] at h3
        have h4 := Nat.mul_le_mul hcp hcp
        exact values_rep (c0 := G_values_of r 0) (c1 := G_values_of r 1) (n := n) (s := s) (L := shapesC ps) hc (by unfold Ln; omega)
    · show defD [] 9 (B_shapes (G_values_of r 0) (G_values_of r 1)) fuel [.val (.tup (encs ps))] = _
      obtain ⟨g1, g2, g3, g4⟩ := good_parts hg
      have nd := (distinct_nodup _).mp g4
      have nl := names_len (ps := ps)
      have hsec : ∀ p ∈ ps, secP p ≤ 4 := fun p hp => by
        obtain ⟨a, b, rfl⟩ := List.append_of_mem hp
        have h1 : ∀ (a b : List Pt) (p : Pt), secP p ≤ (mcs (a ++ p :: b)).2 := fun a => by
          induction a with
          | nil => intro b p; rw [List.nil_append, sec_cons]; omega
          | cons q a ih => intro b p; rw [List.cons_append, sec_cons]; have := ih b p; omega
        have := h1 a b p
        omega
      obtain ⟨y2, y3, y4, y5, y6, el⟩ := shapes_loop (c0 := G_values_of r 0) (c1 := G_values_of r 1) (fuel := fuel) (x0 := .val (.tup (encs ps))) ps (fun p hp ht => i0 d p (List.all_eq_true.mp g3 p hp) (hsec p hp) ht (by have := hgs_mem hp; omega)) [] [(0, [])] .emp .emp .emp .emp .emp
        (fun x hx => by rw [List.mem_singleton] at hx; subst hx; rfl) (by simpa using nd) (by simp; omega) (fun qs rs e => by
          have ga : qs.all (goodP d) = true := by rw [e, List.all_append, Bool.and_eq_true] at g3; exact g3.1
          have hs2 : (mcs qs).2 ≤ 4 := by have := mcs_app_le qs rs; rw [← e] at this; omega
          have := shapes_len (hgs qs) d qs [(0, [])] 0 (Nat.le_refl _) ga (by omega) (by simp [fcap])
          have h3 := fcap_le hs2
          rw [Nat.zero_add] at this
          unfold Ln; omega)
      have e0 : mkLst (aCons (mkTup (aCons (vC (.int 0)) (aCons (ofO (oC (.d 0 []))) (aNil)))) (aNil)) [.val (.tup (encs ps)), .emp, .emp, .emp, .emp, .emp, .emp, .emp, .emp] = .ok (.lst ([(0, [])].map encS), [.val (.tup (encs ps)), .emp, .emp, .emp, .emp, .emp, .emp, .emp, .emp]) := by
        have h1 : ([.tup [.int 0, .dic 0 []]] : List D).length ≤ Ln := by show 1 ≤ Ln; decide
        have h2 : ([.int 0, .dic 0 []] : List D).length ≤ Ln := by show 2 ≤ Ln; decide
        simp only [mkLst, mkTup, aCons, aNil, vC, ofO, oC, dOf, lft_some, R.bind_ok, h1, h2, if_true]
        rfl
      show DL.finish [] (B_shapes (G_values_of r 0) (G_values_of r 1) fuel [.val (.tup (encs ps)), .emp, .emp, .emp, .emp, .emp, .emp, .emp, .emp]) = _
      rw [B_shapes, sSeq_nx (ds' := [.val (.tup (encs ps)), .val (.lst ([(0, [])].map encS)), .emp, .emp, .emp, .emp, .emp, .emp, .emp]) (by unfold sAsg; rw [e0]; rfl),
        sSeq_nx (by unfold sFor; simp only [iSeq, vGet, List.getElem?_cons_succ, List.getElem?_cons_zero, R.bind_ok, toOut_ok]; exact el)]
      simp only [sRet, vGet, List.getElem?_cons_succ, List.getElem?_cons_zero, toOut_ok]
      rfl
/-! ### alike templates -/
def dN (A : List Pt) : List (D × D) := A.map fun p => (.str (nm p), enc p)
theorem dput_dN {A : List Pt} {p : Pt} (h : nm p ∉ A.map nm) : dput (dN A) (.str (nm p)) (enc p) = dN (A ++ [p]) := by
  have hn : (dN A).any (fun kv => kv.1.beq (.str (nm p))) = false := by
    rw [List.any_eq_false]
    intro kv hkv
    unfold dN at hkv
    obtain ⟨q, hq, rfl⟩ := List.mem_map.mp hkv
    simp only [beq_str, decide_eq_true_eq]
    exact fun z => h (z ▸ List.mem_map_of_mem hq)
  unfold dput
  rw [hn]
  unfold dN
  rw [List.map_append]
  rfl
theorem dget_dN : ∀ {A : List Pt} {p : Pt}, (A.map nm).Nodup → p ∈ A → dget (dN A) (.str (nm p)) = some (enc p)
  | [], p, _, h => by simp at h
  | q :: A, p, nd, h => by
    rw [List.map_cons, List.nodup_cons] at nd
    unfold dget dN
    rw [List.map_cons, List.find?_cons]
    simp only [beq_str]
    by_cases e : nm q = nm p
    · have : p = q := by
        rcases List.mem_cons.mp h with z | z
        · exact z
        · exact absurd (e ▸ List.mem_map_of_mem z) nd.1
      subst this
      simp
    · have hp : p ∈ A := by
        rcases List.mem_cons.mp h with z | z
        · exact absurd (by rw [z]) e
        · exact z
      simp only [e, decide_false]
      exact dget_dN nd.2 hp
theorem named_names (ps : List Pt) : (named ps).map nm = names ps := rfl
theorem sort_dN {A : List Pt} (h1 : A.length < 64) (h2 : ∀ p ∈ A, okS (nm p) = true) : dSorted [.dic 0 (dN A)] = some (.lst ((sortN (A.map nm)).map .str)) := by
  have e : strKeys (dN A) = some (A.map nm) := by
    unfold dN
    induction A with
    | nil => rfl
    | cons p A ih => rw [List.map_cons, List.map_cons, strKeys, ih (by simp at h1; omega) fun q hq => h2 q (List.mem_cons_of_mem _ hq)]; rfl
  unfold dSorted
  simp only [e]
  rw [if_pos ⟨by rw [List.length_map]; exact h1, by rw [List.all_map, List.all_eq_true]; exact h2⟩]
theorem Alk.refl : ∀ (k d : Nat) (t : List Pt), goodPs d t = true → hgs t + 1 ≤ k → Alk k t t
  | 0, _, _, _, h => by omega
  | k + 1, d, t, hg, h => by
    obtain ⟨g1, g2, g3, g4⟩ := good_parts hg
    have nd := (distinct_nodup _).mp g4
    refine ⟨nd, nd, fun p hp ht => ⟨p, hp, rfl, rfl, fun hf => ?_, fun hk => ?_⟩, fun q hq ht => ⟨q, hq, ht, rfl⟩⟩
    · exact Alk.refl k (d - 1) (inn p) (good_inn (List.all_eq_true.mp g3 p hp) ht hf) (by have := hgs_mem hp; rw [hgs_inn] at this; omega)
    · have gp := List.all_eq_true.mp g3 p hp
      cases p with
      | rep n s ps =>
        simp only [goodP, Bool.and_eq_true] at gp
        exact ⟨gp.2.2.2.2, gp.2.2.2.2⟩
      | text s => simp [kind, kT, kE] at hk
      | field s => simp [kind, kF, kE] at hk
      | opt n s => simp [kind, kI, kE] at hk
theorem kind_isText {p q : Pt} (h : kind q = kind p) : isText q = isText p := by
  cases p <;> cases q <;> simp [kind, isText, kT, kF, kI, kE] at h ⊢
theorem kind_isField {p q : Pt} (h : kind q = kind p) : isField q = isField p := by
  cases p <;> cases q <;> simp [kind, isField, kT, kF, kI, kE] at h ⊢
theorem uniq_name {ps : List Pt} (nd : (names ps).Nodup) {p q : Pt} (hp : p ∈ ps) (hq : q ∈ ps) (tp : isText p = false) (tq : isText q = false) (e : nm p = nm q) : p = q := by
  obtain ⟨a, b, rfl⟩ := List.append_of_mem hp
  rw [names_app, names_cons, if_neg (by simp [tp]), List.nodup_append] at nd
  rcases List.mem_append.mp hq with z | z
  · exact (nd.2.2 (nm q) (mem_names z tq) (nm p) List.mem_cons_self e.symm).elim
  · rcases List.mem_cons.mp z with z | z
    · exact z.symm
    · exact absurd (e ▸ mem_names z tq) (List.nodup_cons.mp nd.2.1).1
theorem Alk.symm : ∀ (k : Nat) (t o : List Pt), Alk k t o → Alk k o t
  | 0, _, _, h => h
  | k + 1, t, o, h => by
    obtain ⟨n1, n2, h1, h2⟩ := h
    refine ⟨n2, n1, fun q hq tq => ?_, fun p hp tp => ?_⟩
    · obtain ⟨p, hp, tp, e⟩ := h2 q hq tq
      obtain ⟨q', hq', e1, e2, e3, e4⟩ := h1 p hp tp
      have : q' = q := uniq_name n2 hq' hq (by rw [kind_isText e2]; exact tp) tq (e1.trans e)
      subst this
      exact ⟨p, hp, e1.symm, e2.symm, fun hf => Alk.symm k _ _ (e3 (by rw [← kind_isField e2]; exact hf)), fun hk => (e4 (by rw [← e2]; exact hk)).symm⟩
    · obtain ⟨q, hq, e1, e2, _, _⟩ := h1 p hp tp
      exact ⟨q, hq, by rw [kind_isText e2]; exact tp, e1⟩
theorem Alk.perm {k : Nat} {t o : List Pt} (h : Alk k t o) : (names t).Perm (names o) := by
  cases k with
  | zero => exact h.elim
  | succ k =>
    obtain ⟨n1, n2, h1, h2⟩ := h
    rw [List.perm_ext_iff_of_nodup n1 n2]
    intro n
    constructor
    · intro hn
      obtain ⟨p, hp, tp, rfl⟩ := of_names hn
      obtain ⟨q, hq, e1, e2, _, _⟩ := h1 p hp tp
      rw [← e1]
      exact mem_names hq (by rw [kind_isText e2]; exact tp)
    · intro hn
      obtain ⟨q, hq, tq, rfl⟩ := of_names hn
      obtain ⟨p, hp, tp, e⟩ := h2 q hq tq
      rw [← e]
      exact mem_names hp tp
theorem dc_named {ds : DS} (x : Sl) (h4 : ds[4]? = some .emp) (hl : ds.length = 6) : ∀ (ps A : List Pt), (A.map nm ++ names ps).Nodup → A.length + ps.length < 1000 →
    dcD [4] (gSet 4) (toB (fBin dNe (fBin dGetI (vGet 4) (vC (.int 0))) (vC (.str [116, 101, 120, 116])))) (fBin dGetI (vGet 4) (vC (.int 1))) (vGet 4) (encs ps) (dN A) ds = .ok (dN (A ++ named ps), ds)
  | [], A, _, _ => by simp [encs, dcD, named]
  | p :: ps, A, nd, hk => by
    have hno : noOwn [4] ds = true := by simp [noOwn, h4]
    have lt4 : 4 < ds.length := by omega
    have hset : ∀ y : Sl, ((ds.set 4 .emp).set 4 y)[4]? = some y := fun y => by rw [List.getElem?_set_self (by simpa using lt4)]
    have w : gSet 4 (enc p) (wipeD ds [4]) = some ((ds.set 4 .emp).set 4 (.val (enc p))) := rfl
    have bk : backD [4] ds ((ds.set 4 .emp).set 4 (.val (enc p))) = ds := by
      show (match ds[4]? with | some s => ((ds.set 4 .emp).set 4 (.val (enc p))).set 4 s | none => _) = ds
      rw [h4]
      simp only [List.set_set]
      refine List.ext_getElem? fun i => ?_
      by_cases hi : i = 4
      · subst hi; rw [List.getElem?_set_self lt4, h4]
      · rw [List.getElem?_set_ne (Ne.symm hi)]
    have tk : toB (fBin dNe (fBin dGetI (vGet 4) (vC (.int 0))) (vC (.str [116, 101, 120, 116]))) ((ds.set 4 .emp).set 4 (.val (enc p))) = .ok (!isText p, (ds.set 4 .emp).set 4 (.val (enc p))) := by
      simp only [toB, fBin, vGet, vC, hset, R.bind_ok, enc_0, lft_some, ne_str, kind_text]
      cases isText p <;> rfl
    rw [encs, dcD, if_pos hno, w]
    simp only [tk, quiet, R.bind_ok]
    rw [List.length_cons] at hk
    cases ht : isText p with
    | true =>
      have ih := dc_named x h4 hl ps A (by rwa [names_cons, if_pos ht] at nd) (by omega)
      have en : named (p :: ps) = named ps := by unfold named; rw [List.filter_cons]; simp [ht]
      simp only [Bool.not_true, Bool.false_eq_true, if_false, bk, ih, en]
    | false =>
      rw [names_cons, if_neg (by simp [ht])] at nd
      have hn : nm p ∉ A.map nm := fun z => by
        rw [List.nodup_append] at nd
        exact nd.2.2 (nm p) z (nm p) List.mem_cons_self rfl
      have ih := dc_named x h4 hl ps (A ++ [p]) (by simpa using nd) (by simp; omega)
      have en : named (p :: ps) = p :: named ps := by unfold named; rw [List.filter_cons]; simp [ht]
      have e1 : fBin dGetI (vGet 4) (vC (.int 1)) ((ds.set 4 .emp).set 4 (.val (enc p))) = .ok (.str (nm p), (ds.set 4 .emp).set 4 (.val (enc p))) := get_nm 4 (hset _)
      have e2 : vGet 4 ((ds.set 4 .emp).set 4 (.val (enc p))) = .ok (enc p, (ds.set 4 .emp).set 4 (.val (enc p))) := by simp only [vGet, hset]
      have hA : (dN A).length < Ln := by unfold dN Ln; rw [List.length_map]; omega
      simp only [Bool.not_false, if_true, e1, e2, quiet, R.bind_ok, fitK_str, hA, and_self, dput_dN hn, bk, ih, en, List.append_assoc, List.cons_append, List.nil_append]
theorem alike_nil (fuel r : Nat) : F_are_alike (r + 1) fuel [.val (.tup []), .val (.tup [])] = .ret (.bl true) [] := by
  show defD [] 6 (B_are_alike (F_are_alike r)) fuel [.val (.tup []), .val (.tup [])] = _
  rfl
theorem alike_pos (fuel : Nat) : ∀ (r d : Nat) (t o : List Pt), goodPs d t = true → goodPs d o = true → Alk r t o → hgs t + 1 ≤ r → F_are_alike r fuel [.val (.tup (encs t)), .val (.tup (encs o))] = .ret (.bl true) []
  | 0, _, _, _, _, _, _, h => by omega
  | r + 1, d, t, o, ht, ho, ha, h => by
    have hp := ha.perm
    obtain ⟨n1, n2, h1, h2⟩ := ha
    obtain ⟨t1, t2, t3, t4⟩ := good_parts ht
    obtain ⟨o1, o2, o3, o4⟩ := good_parts ho
    show DL.finish [] (B_are_alike (F_are_alike r) fuel [.val (.tup (encs t)), .val (.tup (encs o)), .emp, .emp, .emp, .emp]) = _
    have e1 := dc_named (ds := [.val (.tup (encs t)), .val (.tup (encs o)), .emp, .emp, .emp, .emp]) .emp rfl rfl t [] (by simpa using n1) (by simp; omega)
    have e2 := dc_named (ds := [.val (.tup (encs t)), .val (.tup (encs o)), .val (.dic 0 (dN (named t))), .emp, .emp, .emp]) .emp rfl rfl o [] (by simpa using n2) (by simp; omega)
    rw [List.nil_append] at e1 e2
    have s1 := sort_dN (A := named t) (by have := List.length_filter_le (fun p => !isText p) t; unfold named; omega) fun p hp => by
      obtain ⟨hm, hx⟩ := List.mem_filter.mp hp
      exact names_ok t3 _ (mem_names hm (by simpa using hx))
    have s2 := sort_dN (A := named o) (by have := List.length_filter_le (fun p => !isText p) o; unfold named; omega) fun p hp => by
      obtain ⟨hm, hx⟩ := List.mem_filter.mp hp
      exact names_ok o3 _ (mem_names hm (by simpa using hx))
    rw [named_names] at s1 s2
    rw [sortN_perm_eq hp] at s1
    have nmt : ((named t).map nm).Nodup := n1
    have nmo : ((named o).map nm).Nodup := n2
    have keys : (dN (named t)).all (fun kv => okKk kv.1) = true := by
      unfold dN
      rw [List.all_map, List.all_eq_true]
      intro p hp
      obtain ⟨hm, hx⟩ := List.mem_filter.mp hp
      exact names_ok t3 _ (mem_names hm (by simpa using hx))
    have ekeys : (dN (named t)).map (·.1) = (named t).map fun p => D.str (nm p) := by unfold dN; rw [List.map_map]; rfl
    have e3 : lcD [5] (gSet 5) bYes (fAnd (fBin dEq (fBin dGetI (fBin dGetI (vGet 2) (vGet 5)) (vC (.int 0))) (fBin dGetI (fBin dGetI (vGet 3) (vGet 5)) (vC (.int 0)))) (fCallF ((F_are_alike r) fuel) (aaVal (fCallF (F_inner fuel) (aaVal (fBin dGetI (vGet 2) (vGet 5)) (aaNil))) (aaVal (fCallF (F_inner fuel) (aaVal (fBin dGetI (vGet 3) (vGet 5)) (aaNil))) (aaNil))))) ((named t).map fun p => D.str (nm p))
        [.val (.tup (encs t)), .val (.tup (encs o)), .val (.dic 0 (dN (named t))), .val (.dic 0 (dN (named o))), .emp, .emp] = .ok ((named t).map fun p => D.bl true, [.val (.tup (encs t)), .val (.tup (encs o)), .val (.dic 0 (dN (named t))), .val (.dic 0 (dN (named o))), .emp, .emp]) := by
      refine lcD_map _ _ rfl (named t) fun p hp => ⟨_, [.val (.tup (encs t)), .val (.tup (encs o)), .val (.dic 0 (dN (named t))), .val (.dic 0 (dN (named o))), .emp, .val (.str (nm p))], rfl, ?_, rfl⟩
      obtain ⟨hm, hx⟩ := List.mem_filter.mp hp
      have tp : isText p = false := by simpa using hx
      obtain ⟨q, hq, en, ek, hin, _⟩ := h1 p hm tp
      have hqn : q ∈ named o := List.mem_filter.mpr ⟨hq, by rw [kind_isText ek, tp]; rfl⟩
      have g1 : dGetI (.dic 0 (dN (named t))) (.str (nm p)) = some (enc p) := by
        show (if fitK 0 (.str (nm p)) = true then dget (dN (named t)) (.str (nm p)) else none) = _
        rw [if_pos (fitK_str _), dget_dN nmt hp]
      have g2 : dGetI (.dic 0 (dN (named o))) (.str (nm p)) = some (enc q) := by
        show (if fitK 0 (.str (nm p)) = true then dget (dN (named o)) (.str (nm p)) else none) = _
        rw [if_pos (fitK_str _), ← en, dget_dN nmo hqn]
      have cc : F_are_alike r fuel [.val (.tup (encs (inn p))), .val (.tup (encs (inn q)))] = .ret (.bl true) [] := by
        have hh := hgs_mem hm
        rw [hgs_inn] at hh
        cases hf : isField p with
        | false => exact alike_pos fuel r (d - 1) _ _ (good_inn (List.all_eq_true.mp t3 p hm) tp hf) (good_inn (List.all_eq_true.mp o3 q hq) (by rw [kind_isText ek]; exact tp) (by rw [kind_isField ek]; exact hf)) (hin hf) (by omega)
        | true =>
          have ip : inn p = [] := by cases p <;> simp [isField] at hf; rfl
          have iq : inn q = [] := by
            have := kind_isField ek
            rw [hf] at this
            cases q <;> simp [isField] at this; rfl
          rw [ip, iq]
          obtain ⟨r', rfl⟩ : ∃ r', r = r' + 1 := ⟨r - 1, by omega⟩
          exact alike_nil fuel r'
      have i1 := inner_spec fuel p
      have i2 := inner_spec fuel q
      simp only [wipeD, gSet_app, List.foldl_cons, List.foldl_nil, List.set_cons_succ, List.set_cons_zero, fAnd, fBin, vGet, vC, List.getElem?_cons_succ, List.getElem?_cons_zero, R.bind_ok, g1, g2, lft_some, enc_0, eq_str, ek, decide_true, if_true, fCallF, aaVal, aaNil, asOf, idxOf, Option.map_some, i1, i2, List.nodup_nil, putCs, cc]
    have ne : dNe (.lst ((sortN (names o)).map .str)) (.lst ((sortN (names o)).map .str)) = some (.bl false) := ne_same _
    have hb := bools_map (fun _ : Pt => true) (named t)
    have al : dAll [.lst ((named t).map fun p => D.bl true)] = some (.bl true) := by
      unfold dAll
      simp only [hb, Option.bind_some, Option.map_some]
      simp
    rw [B_are_alike, sSeq_nx (ds' := [.val (.tup (encs t)), .val (.tup (encs o)), .val (.dic 0 (dN (named t))), .emp, .emp, .emp]) (by
        have e1' : dcD [4] (gSet 4) (toB (fBin dNe (fBin dGetI (vGet 4) (vC (.int 0))) (vC (.str [116, 101, 120, 116])))) (fBin dGetI (vGet 4) (vC (.int 1))) (vGet 4) (encs t) [] [.val (.tup (encs t)), .val (.tup (encs o)), .emp, .emp, .emp, .emp] = _ := e1
        simp only [sAsg, ofO, oDc, iSeq, vGet, List.getElem?_cons_succ, List.getElem?_cons_zero, R.bind_ok, e1', dOf, lft_some, toOut_ok, gSet_app, List.set_cons_succ, List.set_cons_zero]),
      sSeq_nx (ds' := [.val (.tup (encs t)), .val (.tup (encs o)), .val (.dic 0 (dN (named t))), .val (.dic 0 (dN (named o))), .emp, .emp]) (by
        have e2' : dcD [4] (gSet 4) (toB (fBin dNe (fBin dGetI (vGet 4) (vC (.int 0))) (vC (.str [116, 101, 120, 116])))) (fBin dGetI (vGet 4) (vC (.int 1))) (vGet 4) (encs o) [] [.val (.tup (encs t)), .val (.tup (encs o)), .val (.dic 0 (dN (named t))), .emp, .emp, .emp] = _ := e2
        simp only [sAsg, ofO, oDc, iSeq, vGet, List.getElem?_cons_succ, List.getElem?_cons_zero, R.bind_ok, e2', dOf, lft_some, toOut_ok, gSet_app, List.set_cons_succ, List.set_cons_zero]),
      sSeq_nx (ds' := [.val (.tup (encs t)), .val (.tup (encs o)), .val (.dic 0 (dN (named t))), .val (.dic 0 (dN (named o))), .emp, .emp]) (by
        rw [sIf_f (ds' := [.val (.tup (encs t)), .val (.tup (encs o)), .val (.dic 0 (dN (named t))), .val (.dic 0 (dN (named o))), .emp, .emp])]
        · rfl
        · simp only [toB, fBin, fCall, aCons, aNil, vGet, List.getElem?_cons_succ, List.getElem?_cons_zero, R.bind_ok, s1, s2, lft_some, ne])]
    simp only [sRet, fCall, aCons, aNil, ofO, lockE, List.getElem?_cons_succ, List.getElem?_cons_zero, quiet, oLc, fKeys, keys, if_true, R.bind_ok, ekeys, e3, dOf, lft_some, al, toOut_ok]
    rfl
theorem alike_spec (fuel : Nat) {t o : List Pt} (ht : tmplB t = true) (ho : tmplB o = true) (h : Alk 8 t o) : F_alike fuel [.val (.tup (encs t)), .val (.tup (encs o))] = .ret (.bl true) [] := by
  have e := alike_pos fuel 8 3 t o (tmpl_good ht) (tmpl_good ho) h (by have := (good_hgs 3).1 t (tmpl_good ht); omega)
  have a := need_template_spec fuel t ht
  have b := need_template_spec fuel o ho
  simp [F_alike, defD, ownIx, B_alike, sSeq, sExpr, fCallF, aaVal, aaNil, vGet, R.bind, asOf, idxOf, a, b, e, putCs, toOut, sRet, DL.finish, outsOf, List.replicate]
/-! ### records with other words -/
abbrev Ws := Option (List Sg × List Nat)
def wlook (ws : Ws) (p : List Sg) : Option (List Nat) := match ws with
  | some (q, w) => if q = p then some w else none
  | none => none
def mapI (f : Rv → Nat → Rv) : Nat → List Rv → List Rv
  | _, [] => []
  | i, x :: xs => f x i :: mapI f (i + 1) xs
mutual
def wordP (g : List Sg → Option (List Nat)) : Pt → As → List Sg → Rv
  | .text _, _, _ => .none
  | .field n, ρ, π => match g (π ++ [.s n]) with
    | some w => .word w
    | none => (ρ n).getD .none
  | .opt n ps, ρ, π => match ρ n with
    | some (.obj q) => .obj (wordPs g ps (look (.obj q)) (π ++ [.s n]))
    | _ => .none
  | .rep n _ ps, ρ, π => match ρ n with
    | some (.recs rs) => .recs (mapI (fun x i => .obj (wordPs g ps (look x) (π ++ [.s n, .i i]))) 0 rs)
    | _ => .none
def wordPs (g : List Sg → Option (List Nat)) : List Pt → As → List Sg → Rec
  | [], _, _ => []
  | p :: ps, ρ, π => if isText p = true then wordPs g ps ρ π else (nm p, wordP g p ρ π) :: wordPs g ps ρ π
end
theorem word_keys (g : List Sg → Option (List Nat)) (ρ : As) (π : List Sg) : ∀ ps : List Pt, (wordPs g ps ρ π).map (·.1) = names ps
  | [] => by simp [wordPs, names, named]
  | p :: ps => by
    rw [wordPs, names_cons]
    split
    · exact word_keys g ρ π ps
    · rw [List.map_cons, word_keys g ρ π ps]
def encWs : Ws → D
  | none => .dic 1 []
  | some (p, w) => .dic 1 [(dPath p, .str w)]
theorem beq_sg (a b : Sg) : (encSg a).beq (encSg b) = decide (a = b) := by
  cases a with
  | i n => cases b with
    | i m =>
      show decide ((n : Int) = (m : Int)) = _
      by_cases h : n = m
      · subst h; simp
      · rw [decide_eq_false (by omega), decide_eq_false (by simpa using h)]
    | s l => simp [encSg, D.beq]
  | s l => cases b with
    | i m => simp [encSg, D.beq]
    | s k => simp [encSg, D.beq]
theorem beqL_sg : ∀ (a b : List Sg), D.beqL (a.map encSg) (b.map encSg) = decide (a = b)
  | [], [] => rfl
  | [], _ :: _ => rfl
  | _ :: _, [] => rfl
  | x :: a, y :: b => by
    rw [List.map_cons, List.map_cons, D.beqL, beq_sg, beqL_sg a b]
    by_cases h : x = y <;> by_cases k : a = b <;> simp [h, k]
theorem asKeys_sg : ∀ a : List Sg, (asKeys (a.map encSg)).isSome = true
  | [] => rfl
  | x :: a => by
    have ih := asKeys_sg a
    obtain ⟨ks, e⟩ := Option.isSome_iff_exists.mp ih
    cases x <;> simp [asKeys, encSg, asKey, e]
theorem fitK_path (p : List Sg) : fitK 1 (dPath p) = true := asKeys_sg p
theorem ws_get (ws : Ws) (p : List Sg) (d : D) : ∃ kvs, encWs ws = .dic 1 kvs ∧ (dget kvs (dPath p)).getD d = match wlook ws p with | some w => .str w | none => d := by
  cases ws with
  | none => exact ⟨[], rfl, rfl⟩
  | some x =>
    obtain ⟨q, w⟩ := x
    refine ⟨[(dPath q, .str w)], rfl, ?_⟩
    unfold dget wlook
    rw [List.find?_cons]
    have : (dPath q).beq (dPath p) = decide (q = p) := beqL_sg q p
    rw [this]
    by_cases h : q = p <;> simp [h]
theorem sDPut_ok {i : Nat} {fk fv : DS → R (D × DS)} {ds : DS} {acc : Rec} {k : List Nat} {v : Rv} (h : ds[i]? = some (.own (.d 0 (encR acc)))) (hv : fv ds = .ok (encV v, ds)) (hk : fk ds = .ok (.str k, ds)) (hn : k ∉ acc.map (·.1)) (hl : acc.length < Ln) : sDPutD i fk fv ds = .nx (ds.set i (.own (.d 0 (encR (acc ++ [(k, v)]))))) := by
  unfold sDPutD
  have hl' : (encR acc).length < Ln := by rw [encR_len]; exact hl
  simp only [hv, toOut_ok, h, hk, fitK_str, hl', and_self, if_true, dput_new (v := v) hn]
section
variable {c0 : Nat → List Sl → Res} {fuel : Nat}
def WrdC (c0 : Nat → List Sl → Res) (fuel : Nat) (ws : Ws) (ps : List Pt) (m : Nat) : Prop := ∀ q π, FitR ps q → π.length ≤ m → c0 fuel [.val (.tup (encs ps)), .val (.dic 0 (encR q)), .val (dPath π), .val (encWs ws)] = .ret (.dic 0 (encR (wordPs (wlook ws) ps (look (.obj q)) π))) []
theorem pathI (π : List Sg) (k : Nat) (h : π.length + 1 ≤ Ln) : dAdd (dPath π) (.tup [.int k]) = some (dPath (π ++ [.i k])) := by
  unfold dAdd dPath
  dsimp only
  rw [if_pos (by simpa using h), List.map_append]
  rfl
theorem word_rep {n s : List Nat} {ps : List Pt} {ws : Ws} {π : List Sg} {x0 x1 x2 x4 x6 : Sl} (hc : WrdC c0 fuel ws ps (π.length + 2)) (hπ : π.length ≤ 1000) : ∀ (rs : List Rv), (∀ x ∈ rs, ∃ q, x = .obj q ∧ FitR ps q) → ∀ k : Nat,
    lcD [8, 9] (gTupD 2 (gConsD (gSet 8) (gConsD (gSet 9) (gNilD)))) (bYes) (fCallF (c0 fuel) (aaVal (fBin dGetI (vGet 5) (vC (.int 3))) (aaVal (vGet 9) (aaVal (fBin dAdd (vGet 7) (mkTup (aCons (vGet 8) (aNil)))) (aaVal (vGet 3) (aaNil)))))) (enumD k (encVs rs)) [x0, x1, x2, .val (encWs ws), x4, .val (enc (.rep n s ps)), x6, .val (dPath (π ++ [.s n])), .emp, .emp]
      = .ok (encVs (mapI (fun x i => .obj (wordPs (wlook ws) ps (look x) (π ++ [.s n, .i i]))) k rs), [x0, x1, x2, .val (encWs ws), x4, .val (enc (.rep n s ps)), x6, .val (dPath (π ++ [.s n])), .emp, .emp])
  | [], _, k => by simp [encVs, enumD, lcD, mapI]
  | x :: rs, h, k => by
    obtain ⟨q, rfl, hq⟩ := h x List.mem_cons_self
    have ih := word_rep (n := n) (s := s) (x0 := x0) (x1 := x1) (x2 := x2) (x4 := x4) (x6 := x6) hc hπ rs (fun y hy => h y (List.mem_cons_of_mem _ hy)) (k + 1)
    have ec := hc q (π ++ [.s n, .i k]) hq (by simp)
    have g3 : dGetI (enc (.rep n s ps)) (.int 3) = some (.tup (encs ps)) := rfl
    have pa : dAdd (dPath (π ++ [.s n])) (.tup [.int k]) = some (dPath (π ++ [.s n, .i k])) := by
      rw [pathI _ k (by unfold Ln; simp; omega), List.append_assoc]; rfl
    have tp := mk1 (vGet 8) [x0, x1, x2, .val (encWs ws), x4, .val (enc (.rep n s ps)), x6, .val (dPath (π ++ [.s n])), .val (.int k), .val (encV (.obj q))] [x0, x1, x2, .val (encWs ws), x4, .val (enc (.rep n s ps)), x6, .val (dPath (π ++ [.s n])), .val (.int k), .val (encV (.obj q))] (.int k) rfl
    have cf : fCallF (c0 fuel) (aaVal (fBin dGetI (vGet 5) (vC (.int 3))) (aaVal (vGet 9) (aaVal (fBin dAdd (vGet 7) (mkTup (aCons (vGet 8) (aNil)))) (aaVal (vGet 3) (aaNil))))) [x0, x1, x2, .val (encWs ws), x4, .val (enc (.rep n s ps)), x6, .val (dPath (π ++ [.s n])), .val (.int k), .val (encV (.obj q))]
        = .ok (encV (.obj (wordPs (wlook ws) ps (look (.obj q)) (π ++ [.s n, .i k]))), [x0, x1, x2, .val (encWs ws), x4, .val (enc (.rep n s ps)), x6, .val (dPath (π ++ [.s n])), .val (.int k), .val (encV (.obj q))]) := by
      refine fCallF_ret (l := [.v (.tup (encs ps)), .v (encV (.obj q)), .v (dPath (π ++ [.s n, .i k])), .v (encWs ws)]) (as := [.val (.tup (encs ps)), .val (.dic 0 (encR q)), .val (dPath (π ++ [.s n, .i k])), .val (encWs ws)]) (cs := []) ?_ rfl (by simp [idxOf]) ec
      simp only [aaVal, aaNil, fBin, vGet, vC, List.getElem?_cons_succ, List.getElem?_cons_zero, R.bind_ok, g3, lft_some]
      simp only [tp, R.bind_ok, pa, lft_some, List.getElem?_cons_succ, List.getElem?_cons_zero]
    have hno : noOwn [8, 9] [x0, x1, x2, .val (encWs ws), x4, .val (enc (.rep n s ps)), x6, .val (dPath (π ++ [.s n])), .emp, .emp] = true := rfl
    have w : gTupD 2 (gConsD (gSet 8) (gConsD (gSet 9) (gNilD))) (.tup [.int (k : Nat), encV (.obj q)]) (wipeD [x0, x1, x2, .val (encWs ws), x4, .val (enc (.rep n s ps)), x6, .val (dPath (π ++ [.s n])), .emp, .emp] [8, 9]) = some [x0, x1, x2, .val (encWs ws), x4, .val (enc (.rep n s ps)), x6, .val (dPath (π ++ [.s n])), .val (.int k), .val (encV (.obj q))] := rfl
    have bk : backD [8, 9] [x0, x1, x2, .val (encWs ws), x4, .val (enc (.rep n s ps)), x6, .val (dPath (π ++ [.s n])), .emp, .emp] [x0, x1, x2, .val (encWs ws), x4, .val (enc (.rep n s ps)), x6, .val (dPath (π ++ [.s n])), .val (.int k), .val (encV (.obj q))] = [x0, x1, x2, .val (encWs ws), x4, .val (enc (.rep n s ps)), x6, .val (dPath (π ++ [.s n])), .emp, .emp] := rfl
    rw [encVs, enumD, lcD, if_pos hno, w]
    simp only [bYes, quiet, R.bind_ok, if_true, cf, bk, ih, mapI, encVs]
theorem word_body {d : Nat} {rr : Rec} {ws : Ws} {π : List Sg} (p : Pt) (hv : isText p = false → ∃ v, rr.lookup (nm p) = some v ∧ FitV p v) (h0 : isText p = false → isField p = false → WrdC c0 fuel ws (inn p) (π.length + 2)) (hπ : π.length ≤ 1000) (x0 x6 x7 : Sl) (acc : Rec) (hn : isText p = false → nm p ∉ acc.map (·.1)) (hl : acc.length < Ln) :
    ∃ y6 y7, B_worded_f2 c0 fuel [x0, .val (.dic 0 (encR rr)), .val (dPath π), .val (encWs ws), .own (.d 0 (encR acc)), .val (enc p), x6, x7, .emp, .emp] = .nx [x0, .val (.dic 0 (encR rr)), .val (dPath π), .val (encWs ws), .own (.d 0 (encR (acc ++ wordPs (wlook ws) [p] (look (.obj rr)) π))), .val (enc p), y6, y7, .emp, .emp] ∨ B_worded_f2 c0 fuel [x0, .val (.dic 0 (encR rr)), .val (dPath π), .val (encWs ws), .own (.d 0 (encR acc)), .val (enc p), x6, x7, .emp, .emp] = .ct [x0, .val (.dic 0 (encR rr)), .val (dPath π), .val (encWs ws), .own (.d 0 (encR (acc ++ wordPs (wlook ws) [p] (look (.obj rr)) π))), .val (enc p), y6, y7, .emp, .emp] := by
  cases ht : isText p with
  | true =>
    refine ⟨x6, x7, .inr ?_⟩
    have kd : decide (kind p = [116, 101, 120, 116]) = true := by cases p <;> simp [isText] at ht; rfl
    have tk := test_kind 5 (ds := [x0, .val (.dic 0 (encR rr)), .val (dPath π), .val (encWs ws), .own (.d 0 (encR acc)), .val (enc p), x6, x7, .emp, .emp]) (p := p) rfl [116, 101, 120, 116]
    rw [kd] at tk
    unfold B_worded_f2 sSeq
    rw [sIf_t tk]
    simp only [sCt, wordPs, ht, if_true, List.append_nil]
  | false =>
    obtain ⟨v, e, f⟩ := hv ht
    have hn := hn ht
    have pa := path1 π (nm p) (by unfold Ln; omega)
    have kd : decide (kind p = [116, 101, 120, 116]) = false := by cases p <;> simp [isText] at ht <;> rfl
    have tk := test_kind 5 (ds := [x0, .val (.dic 0 (encR rr)), .val (dPath π), .val (encWs ws), .own (.d 0 (encR acc)), .val (enc p), x6, x7, .emp, .emp]) (p := p) rfl [116, 101, 120, 116]
    rw [kd] at tk
    have s1 : sIf (toB (fBin dEq (fBin dGetI (vGet 5) (vC (.int 0))) (vC (.str [116, 101, 120, 116])))) (sCt) (sNx) [x0, .val (.dic 0 (encR rr)), .val (dPath π), .val (encWs ws), .own (.d 0 (encR acc)), .val (enc p), x6, x7, .emp, .emp] = .nx [x0, .val (.dic 0 (encR rr)), .val (dPath π), .val (encWs ws), .own (.d 0 (encR acc)), .val (enc p), x6, x7, .emp, .emp] := by rw [sIf_f tk]; rfl
    have gv := get_val 5 1 (ds := [x0, .val (.dic 0 (encR rr)), .val (dPath π), .val (encWs ws), .own (.d 0 (encR acc)), .val (enc p), x6, x7, .emp, .emp]) (p := p) rfl rfl e
    have gn := get_nm 5 (ds := [x0, .val (.dic 0 (encR rr)), .val (dPath π), .val (encWs ws), .own (.d 0 (encR acc)), .val (enc p), x6, x7, .emp, .emp]) (p := p) rfl
    have ph : fBin dAdd (vGet 2) (mkTup (aCons (fBin dGetI (vGet 5) (vC (.int 1))) (aNil))) [x0, .val (.dic 0 (encR rr)), .val (dPath π), .val (encWs ws), .own (.d 0 (encR acc)), .val (enc p), x6, x7, .emp, .emp] = .ok (dPath (π ++ [.s (nm p)]), [x0, .val (.dic 0 (encR rr)), .val (dPath π), .val (encWs ws), .own (.d 0 (encR acc)), .val (enc p), x6, x7, .emp, .emp]) := by
      rw [fBin]
      simp only [vGet, List.getElem?_cons_succ, List.getElem?_cons_zero, R.bind_ok]
      rw [mk1 _ _ _ _ gn]
      simp only [R.bind_ok, pa, lft_some]
    have s2 : sAsg (mkTup (aCons (fBin dGetI (vGet 1) (fBin dGetI (vGet 5) (vC (.int 1)))) (aCons (fBin dAdd (vGet 2) (mkTup (aCons (fBin dGetI (vGet 5) (vC (.int 1))) (aNil)))) (aNil)))) (gTupD 2 (gConsD (gSet 6) (gConsD (gSet 7) (gNilD)))) [x0, .val (.dic 0 (encR rr)), .val (dPath π), .val (encWs ws), .own (.d 0 (encR acc)), .val (enc p), x6, x7, .emp, .emp] = .nx [x0, .val (.dic 0 (encR rr)), .val (dPath π), .val (encWs ws), .own (.d 0 (encR acc)), .val (enc p), .val (encV v), .val (dPath (π ++ [.s (nm p)])), .emp, .emp] := by
      unfold sAsg
      rw [mk2 _ _ _ _ _ _ _ gv ph]
      rfl
    refine ⟨.val (encV v), .val (dPath (π ++ [.s (nm p)])), .inl ?_⟩
    have wk : wordPs (wlook ws) [p] (look (.obj rr)) π = [(nm p, wordP (wlook ws) p (look (.obj rr)) π)] := by simp [wordPs, ht]
    rw [wk, B_worded_f2, sSeq_nx s1, sSeq_nx s2]
    have gn2 := get_nm 5 (ds := [x0, .val (.dic 0 (encR rr)), .val (dPath π), .val (encWs ws), .own (.d 0 (encR acc)), .val (enc p), .val (encV v), .val (dPath (π ++ [.s (nm p)])), .emp, .emp]) (p := p) rfl
    have el : look (.obj rr) (nm p) = some v := e
    cases p with
    | text s => simp [isText] at ht
    | field n =>
      rw [sIf_t (test_kind 5 (p := .field n) rfl _), sDPut_ok (acc := acc) (k := n) (v := wordP (wlook ws) (.field n) (look (.obj rr)) π) rfl ?_ gn2 hn hl]
      · rfl
      · obtain ⟨kvs, e1, e2⟩ := ws_get ws (π ++ [.s n]) (encV v)
        simp only [fGet2, vGet, List.getElem?_cons_succ, List.getElem?_cons_zero, R.bind_ok, e1, nm, fitK_path, if_true, e2]
        simp only [nm] at el
        rw [wordP, el]
        cases wlook ws (π ++ [.s n]) <;> simp [encV]
    | opt n ps =>
      rw [sIf_f (test_kind 5 (p := .opt n ps) rfl _), sIf_f (test_kind 5 (p := .opt n ps) rfl _), B_worded_e1, sDPut_ok (acc := acc) (k := n) (v := wordP (wlook ws) (.opt n ps) (look (.obj rr)) π) rfl ?_ gn2 hn hl]
      · rfl
      · simp only [nm] at el
        rw [FitV] at f
        rcases f with rfl | ⟨q, rfl, hq⟩
        · simp only [fIf, toB, fBin, vGet, vC, List.getElem?_cons_succ, List.getElem?_cons_zero, R.bind_ok, encV, dIs, isNonD, lft_some, if_true, wordP, el]
        · have ec := h0 rfl rfl q (π ++ [.s n]) hq (by simp)
          simp only [inn] at ec
          have g2 : dGetI (enc (.opt n ps)) (.int 2) = some (.tup (encs ps)) := rfl
          simp only [fIf, toB, fBin, vGet, vC, List.getElem?_cons_succ, List.getElem?_cons_zero, R.bind_ok, encV, dIs, isNonD, lft_some, Bool.false_eq_true, if_false, wordP, el, fCallF, aaVal, aaNil, g2, asOf, idxOf, Option.map_some, nm, ec, List.nodup_nil, if_true, putCs]
    | rep n s ps =>
      rw [sIf_f (test_kind 5 (p := .rep n s ps) rfl _), sIf_t (test_kind 5 (p := .rep n s ps) rfl _), B_worded_i0, sDPut_ok (acc := acc) (k := n) (v := wordP (wlook ws) (.rep n s ps) (look (.obj rr)) π) rfl ?_ gn2 hn hl]
      · rfl
      · simp only [nm] at el
        rw [FitV] at f
        obtain ⟨rs, rfl, _, hr⟩ := f
        have wr := word_rep (n := n) (s := s) (ps := ps) (x0 := x0) (x1 := .val (.dic 0 (encR rr))) (x2 := .val (dPath π)) (x4 := .own (.d 0 (encR acc))) (x6 := .val (encV (.recs rs))) (h0 rfl rfl) hπ rs hr 0
        simp only [encV] at wr
        simp only [ofO, oLc, iEnumD, aCons, aNil, vGet, List.getElem?_cons_succ, List.getElem?_cons_zero, R.bind_ok, encV, nm, wr, dOf, lft_some, wordP, el]
theorem word_loop {rr : Rec} {ws : Ws} {π : List Sg} (hπ : π.length ≤ 1000) (x0 : Sl) : ∀ (ps : List Pt), (∀ p ∈ ps, isText p = false → isField p = false → WrdC c0 fuel ws (inn p) (π.length + 2)) → FitAll ps rr → ∀ (acc : Rec) (x x6 x7 : Sl), (acc.map (·.1) ++ names ps).Nodup → acc.length + ps.length < 1000 →
    ∃ y y6 y7, forD (gSet 5) (B_worded_f2 c0 fuel) (encs ps) [x0, .val (.dic 0 (encR rr)), .val (dPath π), .val (encWs ws), .own (.d 0 (encR acc)), x, x6, x7, .emp, .emp] = .nx [x0, .val (.dic 0 (encR rr)), .val (dPath π), .val (encWs ws), .own (.d 0 (encR (acc ++ wordPs (wlook ws) ps (look (.obj rr)) π))), y, y6, y7, .emp, .emp]
  | [], _, _, acc, x, x6, x7, _, _ => ⟨x, x6, x7, by simp [encs, forD, wordPs]⟩
  | p :: ps, h0, hf, acc, x, x6, x7, nd, hl => by
    rw [FitAll] at hf
    rw [List.length_cons] at hl
    have hn : isText p = false → nm p ∉ acc.map (·.1) := fun ht z => by
      rw [names_cons, if_neg (by simp [ht]), List.nodup_append] at nd
      exact nd.2.2 (nm p) z (nm p) List.mem_cons_self rfl
    obtain ⟨z6, z7, hb⟩ := word_body (d := 0) (c0 := c0) (fuel := fuel) p hf.1 (h0 p List.mem_cons_self) hπ x0 x6 x7 acc hn (by unfold Ln; omega)
    have hw : (wordPs (wlook ws) [p] (look (.obj rr)) π).length ≤ 1 := by rw [wordPs]; split <;> simp [wordPs]
    have wapp : wordPs (wlook ws) (p :: ps) (look (.obj rr)) π = wordPs (wlook ws) [p] (look (.obj rr)) π ++ wordPs (wlook ws) ps (look (.obj rr)) π := by
      cases ht : isText p <;> simp [wordPs, ht]
    have nd2 : ((acc ++ wordPs (wlook ws) [p] (look (.obj rr)) π).map (·.1) ++ names ps).Nodup := by
      rw [List.map_append, word_keys, List.append_assoc, ← names_app]
      exact nd
    obtain ⟨y, y6, y7, ih⟩ := word_loop hπ x0 ps (fun q hq => h0 q (List.mem_cons_of_mem _ hq)) hf.2 (acc ++ wordPs (wlook ws) [p] (look (.obj rr)) π) (.val (enc p)) z6 z7 nd2 (by rw [List.length_append]; omega)
    refine ⟨y, y6, y7, ?_⟩
    rw [encs, forD]
    simp only [gSet_app, List.set_cons_succ, List.set_cons_zero]
    rw [wapp, ← List.append_assoc]
    rcases hb with hb | hb <;> rw [hb] <;> simp only [loopK] <;> exact ih
end
theorem worded_spec (fuel : Nat) (ws : Ws) : ∀ (r d : Nat) (ps : List Pt) (m : Nat), goodPs d ps = true → hgs ps + 1 ≤ r → m + 2 * r ≤ 100 → WrdC (F_worded r) fuel ws ps m
  | 0, _, _, _, _, h, _ => by omega
  | r + 1, d, ps, m, hg, h, hm => by
    intro rr π hf hπ
    obtain ⟨g1, g2, g3, g4⟩ := good_parts hg
    have nd := (distinct_nodup _).mp g4
    obtain ⟨y, y6, y7, el⟩ := word_loop (c0 := F_worded r) (fuel := fuel) (rr := rr) (ws := ws) (π := π) (by omega) (.val (.tup (encs ps))) ps (fun p hp ht hf2 =>
      worded_spec fuel ws r (d - 1) (inn p) (π.length + 2) (good_inn (List.all_eq_true.mp g3 p hp) ht hf2) (by have := hgs_mem hp; rw [hgs_inn] at this; omega) (by omega)) hf.2 [] .emp .emp .emp (by simpa using nd) (by simp; omega)
    rw [List.nil_append] at el
    show DL.finish [] (B_worded (F_worded r) fuel [.val (.tup (encs ps)), .val (.dic 0 (encR rr)), .val (dPath π), .val (encWs ws), .emp, .emp, .emp, .emp, .emp, .emp]) = _
    rw [B_worded, sSeq_nx (ds' := [.val (.tup (encs ps)), .val (.dic 0 (encR rr)), .val (dPath π), .val (encWs ws), .own (.d 0 []), .emp, .emp, .emp, .emp, .emp]) (by rfl),
      sSeq_nx (by unfold sFor; simp only [iSeq, vGet, List.getElem?_cons_succ, List.getElem?_cons_zero, R.bind_ok, toOut_ok]; exact el)]
    simp only [sRet, vGetF, List.getElem?_cons_succ, List.getElem?_cons_zero, dOf, lft_some, R.bind_ok, toOut_ok]
    rfl
/-! ### words by which two rows become different texts; the difference -/
def pickW : El → El → Ws
  | .mk p, .mk _ => some (p, [98])
  | .mk p, .ch c => some (p, if c = 97 then [98] else [97])
  | .ch c, .mk p => some (p, if c = 97 then [98] else [97])
  | .ch _, .ch _ => none
def wfL : List El → List El → Ws
  | a :: r, b :: s => if a = b then wfL r s else pickW a b
  | _, _ => none
def wordsFor (a b : List El) : Ws := if a.length = b.length then wfL a b else none
theorem eqB_sg (a b : Sg) : eqB (encSg a) (encSg b) = decide (a = b) := by
  cases a with
  | i n => cases b with
    | i m =>
      show ((n : Int) == (m : Int)) = _
      by_cases h : n = m
      · subst h; simp
      · rw [decide_eq_false (by simpa using h)]; exact beq_eq_false_iff_ne.mpr (by omega)
    | s l => simp [encSg, eqB]
  | s l => cases b with
    | i m => simp [encSg, eqB]
    | s k => simp [encSg, eqB]
theorem eqL_sg : ∀ (a b : List Sg), eqL (a.map encSg) (b.map encSg) = decide (a = b)
  | [], [] => rfl
  | [], _ :: _ => rfl
  | _ :: _, [] => rfl
  | x :: a, y :: b => by
    rw [List.map_cons, List.map_cons, eqL, eqB_sg, eqL_sg a b]
    by_cases h : x = y <;> by_cases k : a = b <;> simp [h, k]
theorem eqB_el (a b : El) : eqB (encEl a) (encEl b) = decide (a = b) := by
  cases a with
  | ch c => cases b with
    | ch d => simp [encEl, eqB]
    | mk p => simp [encEl, eqB]
  | mk p => cases b with
    | ch d => simp [encEl, eqB]
    | mk q =>
      show eqL (p.map encSg) (q.map encSg) = _
      rw [eqL_sg]; simp
theorem eqL_el : ∀ (a b : List El), eqL (a.map encEl) (b.map encEl) = decide (a = b)
  | [], [] => rfl
  | [], _ :: _ => rfl
  | _ :: _, [] => rfl
  | x :: a, y :: b => by
    rw [List.map_cons, List.map_cons, eqL, eqB_el, eqL_el a b]
    by_cases h : x = y <;> by_cases k : a = b <;> simp [h, k]
theorem plain_el (n : Nat) (a : El) : plainD (n + 1) (encEl a) = true := by
  cases a with
  | ch c => rfl
  | mk p =>
    show (p.map encSg).all (plainD n) = true
    rw [List.all_map, List.all_eq_true]
    intro x _
    cases x <;> cases n <;> rfl
theorem ne_el (a b : El) : dNe (encEl a) (encEl b) = some (.bl (!decide (a = b))) := by
  unfold dNe
  rw [if_pos ⟨plain_el 59 a, plain_el 59 b⟩, eqB_el]
theorem ne_row (a b : List El) : dNe (.lst (a.map encEl)) (.lst (b.map encEl)) = some (.bl (!decide (a = b))) := by
  have pl : ∀ l : List El, plainD 60 (.lst (l.map encEl)) = true := fun l => by
    show (l.map encEl).all (plainD 59) = true
    rw [List.all_map, List.all_eq_true]
    exact fun x _ => plain_el 58 x
  unfold dNe
  rw [if_pos ⟨pl a, pl b⟩]
  show some (D.bl (!eqL (a.map encEl) (b.map encEl))) = _
  rw [eqL_el]
def isMkD (a : El) : Bool := isMk a
theorem isi_el (a : El) : dIsi [encEl a, .op (.ty "tuple")] = some (.bl (isMk a)) := by cases a <;> rfl
theorem wf_i0 (fuel : Nat) (x0 x1 x4 x5 : Sl) (a b : El) : ∃ y4 y5, B_words_for_i0 fuel [x0, x1, .val (encEl a), .val (encEl b), x4, x5] = .rt (encWs (pickW a b)) [x0, x1, .val (encEl a), .val (encEl b), y4, y5] := by
  have ia := isi_el a
  have ib := isi_el b
  have ak : ∀ p : List Sg, (asKeys (p.map encSg)).isSome = true := asKeys_sg
  have h2 : (2 : Nat) ≤ Ln := by decide
  cases a with
  | mk p => cases b with
    | mk q =>
      refine ⟨x4, x5, ?_⟩
      simp only [isMk] at ia ib
      simp only [encEl] at ia ib ⊢
      simp only [B_words_for_i0, sSeq, sIf, bAnd, toB, fCall, aCons, aNil, vGet, vC, List.getElem?_cons_succ, List.getElem?_cons_zero, R.bind_ok, ia, ib, lft_some, if_true, toOut_ok, sRet, ofO, oDisp1T, quiet, ak, dOf]
      rfl
    | ch c =>
      refine ⟨.val (.tup (p.map encSg)), .val (.str [c]), ?_⟩
      simp only [isMk] at ia ib
      simp only [encEl] at ia ib ⊢
      have e : dEq (.str [c]) (.str [97]) = some (.bl (decide (c = 97))) := by rw [eq_str]; simp
      simp only [B_words_for_i0, sSeq, sIf, bAnd, toB, fCall, aCons, aNil, vGet, vC, List.getElem?_cons_succ, List.getElem?_cons_zero, R.bind_ok, ia, ib, lft_some, if_true, Bool.false_eq_true, if_false, toOut_ok, sNx, sAsg, fIf, mkTup, List.length_cons, List.length_nil, h2, gTupD, gConsD, gSet_app, Option.bind_some, gNilD, List.set_cons_succ, List.set_cons_zero, sRet, ofO, oDisp1T, quiet, ak, fBin, e, dOf]
      by_cases hc : c = 97
      · subst hc; rfl
      · simp [hc, pickW, encWs, dPath]
  | ch c => cases b with
    | mk p =>
      refine ⟨.val (.tup (p.map encSg)), .val (.str [c]), ?_⟩
      simp only [isMk] at ia ib
      simp only [encEl] at ia ib ⊢
      have e : dEq (.str [c]) (.str [97]) = some (.bl (decide (c = 97))) := by rw [eq_str]; simp
      simp only [B_words_for_i0, sSeq, sIf, bAnd, toB, fCall, aCons, aNil, vGet, vC, List.getElem?_cons_succ, List.getElem?_cons_zero, R.bind_ok, ia, ib, lft_some, if_true, Bool.false_eq_true, if_false, toOut_ok, sNx, sAsg, fIf, mkTup, List.length_cons, List.length_nil, h2, gTupD, gConsD, gSet_app, Option.bind_some, gNilD, List.set_cons_succ, List.set_cons_zero, sRet, ofO, oDisp1T, quiet, ak, fBin, e, dOf]
      by_cases hc : c = 97
      · subst hc; rfl
      · simp [hc, pickW, encWs, dPath]
    | ch d =>
      refine ⟨.val (.str [d]), .val (.str [c]), ?_⟩
      simp only [isMk] at ia ib
      simp only [encEl] at ia ib ⊢
      simp only [B_words_for_i0, sSeq, sIf, bAnd, toB, fCall, aCons, aNil, vGet, vC, List.getElem?_cons_succ, List.getElem?_cons_zero, R.bind_ok, ia, ib, lft_some, Bool.false_eq_true, if_false, toOut_ok, sNx, sAsg, fIf, mkTup, List.length_cons, List.length_nil, h2, if_true, gTupD, gConsD, gSet_app, Option.bind_some, gNilD, List.set_cons_succ, List.set_cons_zero, sRet, ofO, oC, dOf]
      rfl
theorem wf_loop (fuel : Nat) (x0 x1 x4 x5 : Sl) : ∀ (a b : List El), a.length = b.length → ∀ (x2 x3 : Sl), ∃ y2 y3 y4 y5, forD (gTupD 2 (gConsD (gSet 2) (gConsD (gSet 3) (gNilD)))) (sIf (toB (fBin dNe (vGet 2) (vGet 3))) (B_words_for_i0 fuel) (sNx)) (zipD (a.map encEl) (b.map encEl)) [x0, x1, x2, x3, x4, x5]
    = if a = b then .nx [x0, x1, y2, y3, y4, y5] else .rt (encWs (wfL a b)) [x0, x1, y2, y3, y4, y5]
  | [], [], _, x2, x3 => ⟨x2, x3, x4, x5, by simp [zipD, forD]⟩
  | [], _ :: _, h, _, _ => by simp at h
  | _ :: _, [], h, _, _ => by simp at h
  | a :: r, b :: s, h, x2, x3 => by
    have tg : gTupD 2 (gConsD (gSet 2) (gConsD (gSet 3) (gNilD))) (.tup [encEl a, encEl b]) [x0, x1, x2, x3, x4, x5] = some [x0, x1, .val (encEl a), .val (encEl b), x4, x5] := rfl
    have tt : toB (fBin dNe (vGet 2) (vGet 3)) [x0, x1, .val (encEl a), .val (encEl b), x4, x5] = .ok (!decide (a = b), [x0, x1, .val (encEl a), .val (encEl b), x4, x5]) := by
      simp only [toB, fBin, vGet, List.getElem?_cons_succ, List.getElem?_cons_zero, R.bind_ok, ne_el, lft_some]
    rw [List.map_cons, List.map_cons, zipD]
    by_cases hab : a = b
    · obtain ⟨y2, y3, y4, y5, ih⟩ := wf_loop fuel x0 x1 x4 x5 r s (by simpa using h) (.val (encEl a)) (.val (encEl b))
      refine ⟨y2, y3, y4, y5, ?_⟩
      subst hab
      rw [decide_eq_true rfl] at tt
      rw [forD, tg]
      simp only [sIf_f tt, sNx, loopK, ih, List.cons.injEq, true_and, wfL, if_true]
    · obtain ⟨y4, y5, e⟩ := wf_i0 fuel x0 x1 x4 x5 a b
      refine ⟨.val (encEl a), .val (encEl b), y4, y5, ?_⟩
      rw [decide_eq_false hab] at tt
      rw [forD, tg]
      simp only [sIf_t tt, e, loopK, hab, List.cons.injEq, false_and, if_false, wfL]
theorem words_for_spec (fuel : Nat) (a b : List El) (h : a ≠ b) : F_words_for fuel [.val (.lst (a.map encEl)), .val (.lst (b.map encEl))] = .ret (encWs (wordsFor a b)) [] := by
  show DL.finish [] (B_words_for fuel [.val (.lst (a.map encEl)), .val (.lst (b.map encEl)), .emp, .emp, .emp, .emp]) = _
  have tt : toB (fBin dEq (fCall dLen (aCons (vGet 0) (aNil))) (fCall dLen (aCons (vGet 1) (aNil)))) [.val (.lst (a.map encEl)), .val (.lst (b.map encEl)), .emp, .emp, .emp, .emp] = .ok (((a.length : Int) == (b.length : Int)), [.val (.lst (a.map encEl)), .val (.lst (b.map encEl)), .emp, .emp, .emp, .emp]) := by
    simp only [toB, fBin, fCall, aCons, aNil, vGet, List.getElem?_cons_succ, List.getElem?_cons_zero, R.bind_ok, dLen, lft_some, eq_int, List.length_map]
  rw [nat_beq] at tt
  unfold wordsFor
  by_cases hl : a.length = b.length
  · rw [decide_eq_true hl] at tt
    obtain ⟨y2, y3, y4, y5, e⟩ := wf_loop fuel (.val (.lst (a.map encEl))) (.val (.lst (b.map encEl))) .emp .emp a b hl .emp .emp
    rw [if_neg h] at e
    rw [if_pos hl]
    unfold B_words_for sSeq
    rw [sIf_t tt]
    unfold sFor
    simp only [iZipD, aCons, aNil, vGet, List.getElem?_cons_succ, List.getElem?_cons_zero, R.bind_ok, toOut_ok, e]
    rfl
  · rw [decide_eq_false hl] at tt
    rw [if_neg hl]
    unfold B_words_for sSeq
    rw [sIf_f tt]
    rfl
/-! the best of the samples -/
def rowT (t : List Pt) (r : Rec) : List El := rowPs t (look (.obj r)) []
def lessB (b : Option (Nat × Rec)) (w : Nat) : Bool := match b with
  | none => true
  | some y => decide (w < y.1)
def stepB (t o : List Pt) (b : Option (Nat × Rec)) (x : Nat × Rec) : Option (Nat × Rec) :=
  if lessB b x.1 = true ∧ rowT t x.2 ≠ rowT o x.2 then some (x.1, wordPs (wlook (wordsFor (rowT t x.2) (rowT o x.2))) t (look (.obj x.2)) []) else b
def bestC (t o : List Pt) : Option (Nat × Rec) := (shapesC t).foldl (stepB t o) none
def encB : Option (Nat × Rec) → D
  | none => .non
  | some x => encS x
section
variable {fuel : Nat} {t o : List Pt}
theorem dif_step (ht : goodPs 3 t = true) (ho : goodPs 3 o = true) (x5 x6 x3 x4 : Sl) (b : Option (Nat × Rec)) (x : Nat × Rec) (ft : FitR t x.2) (fo : FitR o x.2) :
    ∃ y5 y6, (sIf (bOr (toB (fBin dIs (vGet 2) (vC .non))) (toB (fBin dLt (vGet 3) (fBin dGetI (vGet 2) (vC (.int 0)))))) (B_difference_i1 fuel) (sNx)) [.val (.tup (encs t)), .val (.tup (encs o)), .val (encB b), .val (.int x.1), .val (.dic 0 (encR x.2)), x5, x6] = .nx [.val (.tup (encs t)), .val (.tup (encs o)), .val (encB (stepB t o b x)), .val (.int x.1), .val (.dic 0 (encR x.2)), y5, y6] := by
  have htst : bOr (toB (fBin dIs (vGet 2) (vC .non))) (toB (fBin dLt (vGet 3) (fBin dGetI (vGet 2) (vC (.int 0))))) [.val (.tup (encs t)), .val (.tup (encs o)), .val (encB b), .val (.int x.1), .val (.dic 0 (encR x.2)), x5, x6] = .ok (lessB b x.1, [.val (.tup (encs t)), .val (.tup (encs o)), .val (encB b), .val (.int x.1), .val (.dic 0 (encR x.2)), x5, x6]) := by
    cases b with
    | none => simp only [bOr, toB, fBin, vGet, vC, List.getElem?_cons_succ, List.getElem?_cons_zero, R.bind_ok, encB, dIs, isNonD, lft_some, if_true, lessB]
    | some y =>
      have g0 : dGetI (.tup [.int y.1, .dic 0 (encR y.2)]) (.int 0) = some (.int y.1) := rfl
      have lt : decide ((x.1 : Int) < (y.1 : Int)) = decide (x.1 < y.1) := by
        by_cases h : x.1 < y.1
        · rw [decide_eq_true h, decide_eq_true (by omega)]
        · rw [decide_eq_false h, decide_eq_false (by omega)]
      simp only [bOr, toB, fBin, vGet, vC, List.getElem?_cons_succ, List.getElem?_cons_zero, R.bind_ok, encB, encS, dIs, isNonD, lft_some, Bool.false_eq_true, if_false, g0, dLt, lt, lessB]
  have r1 := row_of_spec fuel 8 3 t 0 (by decide) ht (by have := (good_hgs 3).1 t ht; omega) (by decide) x.2 [] ft (by simp)
  have r2 := row_of_spec fuel 8 3 o 0 (by decide) ho (by have := (good_hgs 3).1 o ho; omega) (by decide) x.2 [] fo (by simp)
  have h0 : (0 : Nat) ≤ Ln := by decide
  have h2 : (2 : Nat) ≤ Ln := by decide
  cases hb : lessB b x.1 with
  | false =>
    rw [hb] at htst
    refine ⟨x5, x6, ?_⟩
    rw [sIf_f htst]
    unfold stepB
    rw [if_neg (by rw [hb]; simp)]
    rfl
  | true =>
    rw [hb] at htst
    refine ⟨.val (.lst ((rowT t x.2).map encEl)), .val (.lst ((rowT o x.2).map encEl)), ?_⟩
    have s1 : sPar 5 6 (aCons (fCallF ((F_row_of 8) fuel) (aaVal (vGet 0) (aaVal (vGet 4) (aaVal (mkTup (aNil)) (aaNil))))) (aCons (fCallF ((F_row_of 8) fuel) (aaVal (vGet 1) (aaVal (vGet 4) (aaVal (mkTup (aNil)) (aaNil))))) (aNil))) [.val (.tup (encs t)), .val (.tup (encs o)), .val (encB b), .val (.int x.1), .val (.dic 0 (encR x.2)), x5, x6] = .nx [.val (.tup (encs t)), .val (.tup (encs o)), .val (encB b), .val (.int x.1), .val (.dic 0 (encR x.2)), .val (.lst ((rowT t x.2).map encEl)), .val (.lst ((rowT o x.2).map encEl))] := by
      simp only [dPath, List.map_nil] at r1 r2
      simp only [sPar, aCons, aNil, fCallF, aaVal, aaNil, mkTup, vGet, List.getElem?_cons_succ, List.getElem?_cons_zero, R.bind_ok, List.length_nil, h0, if_true, asOf, idxOf, Option.map_some, r1, r2, List.nodup_nil, putCs, toOut_ok, List.set_cons_succ, List.set_cons_zero]
      rfl
    have tt : toB (fBin dNe (vGet 5) (vGet 6)) [.val (.tup (encs t)), .val (.tup (encs o)), .val (encB b), .val (.int x.1), .val (.dic 0 (encR x.2)), .val (.lst ((rowT t x.2).map encEl)), .val (.lst ((rowT o x.2).map encEl))] = .ok (!decide (rowT t x.2 = rowT o x.2), [.val (.tup (encs t)), .val (.tup (encs o)), .val (encB b), .val (.int x.1), .val (.dic 0 (encR x.2)), .val (.lst ((rowT t x.2).map encEl)), .val (.lst ((rowT o x.2).map encEl))]) := by
      simp only [toB, fBin, vGet, List.getElem?_cons_succ, List.getElem?_cons_zero, R.bind_ok, ne_row, lft_some]
    rw [sIf_t htst, B_difference_i1, sSeq_nx s1]
    by_cases hr : rowT t x.2 = rowT o x.2
    · rw [decide_eq_true hr] at tt
      rw [sIf_f tt]
      unfold stepB
      rw [if_neg (by simp [hr])]
      rfl
    · rw [decide_eq_false hr] at tt
      rw [sIf_t tt]
      have wf := words_for_spec fuel (rowT t x.2) (rowT o x.2) hr
      have wd := worded_spec fuel (wordsFor (rowT t x.2) (rowT o x.2)) 8 3 t 0 ht (by have := (good_hgs 3).1 t ht; omega) (by decide) x.2 [] ft (by simp)
      simp only [dPath, List.map_nil] at wd
      unfold stepB
      rw [if_pos ⟨hb, hr⟩]
      simp only [B_difference_i0, sAsg, mkTup, aCons, aNil, fCallF, aaVal, aaNil, vGet, List.getElem?_cons_succ, List.getElem?_cons_zero, R.bind_ok, List.length_nil, List.length_cons, h0, h2, if_true, asOf, idxOf, Option.map_some, wf, wd, List.nodup_nil, putCs, toOut_ok, gSet_app, List.set_cons_succ, List.set_cons_zero]
      rfl
theorem dif_loop (ht : goodPs 3 t = true) (ho : goodPs 3 o = true) : ∀ (L : List (Nat × Rec)), (∀ x ∈ L, FitR t x.2 ∧ FitR o x.2) → ∀ (b : Option (Nat × Rec)) (x3 x4 x5 x6 : Sl), ∃ y3 y4 y5 y6, forD (gTupD 2 (gConsD (gSet 3) (gConsD (gSet 4) (gNilD)))) (sIf (bOr (toB (fBin dIs (vGet 2) (vC .non))) (toB (fBin dLt (vGet 3) (fBin dGetI (vGet 2) (vC (.int 0)))))) (B_difference_i1 fuel) (sNx)) (L.map encS) [.val (.tup (encs t)), .val (.tup (encs o)), .val (encB b), x3, x4, x5, x6]
    = .nx [.val (.tup (encs t)), .val (.tup (encs o)), .val (encB (L.foldl (stepB t o) b)), y3, y4, y5, y6]
  | [], _, b, x3, x4, x5, x6 => ⟨x3, x4, x5, x6, by simp [forD]⟩
  | x :: L, h, b, x3, x4, x5, x6 => by
    obtain ⟨ft, fo⟩ := h x List.mem_cons_self
    obtain ⟨z5, z6, e⟩ := dif_step (fuel := fuel) ht ho x5 x6 x3 x4 b x ft fo
    obtain ⟨y3, y4, y5, y6, ih⟩ := dif_loop ht ho L (fun z hz => h z (List.mem_cons_of_mem _ hz)) (stepB t o b x) (.val (.int x.1)) (.val (.dic 0 (encR x.2))) z5 z6
    refine ⟨y3, y4, y5, y6, ?_⟩
    have tg : gTupD 2 (gConsD (gSet 3) (gConsD (gSet 4) (gNilD))) (encS x) [.val (.tup (encs t)), .val (.tup (encs o)), .val (encB b), x3, x4, x5, x6] = some [.val (.tup (encs t)), .val (.tup (encs o)), .val (encB b), .val (.int x.1), .val (.dic 0 (encR x.2)), x5, x6] := rfl
    rw [List.map_cons, forD, tg]
    simp only [e, loopK, ih, List.foldl_cons]
/-- the difference, as the program gives it -/
def diffC (t o : List Pt) : D := match bestC t o with
  | none => .non
  | some x => .dic 0 (encR x.2)
theorem difference_spec (ht : tmplB t = true) (ho : tmplB o = true) (ha : Alk 8 t o) (hh : hgs t ≤ 3) (hf : ∀ x ∈ shapesC t, FitR t x.2 ∧ FitR o x.2) : F_difference fuel [.val (.tup (encs t)), .val (.tup (encs o))] = .ret (diffC t o) [] := by
  have hs : (mcs t).2 ≤ 4 := by simp only [tmplB, Bool.and_eq_true, decide_eq_true_eq] at ht; exact ht.2.2
  have sh := (shapes_spec fuel 8).2 3 t (tmpl_good ht) hs (by omega)
  have al := alike_spec fuel ht ho ha
  obtain ⟨y3, y4, y5, y6, el⟩ := dif_loop (fuel := fuel) (tmpl_good ht) (tmpl_good ho) (shapesC t) hf none .emp .emp .emp .emp
  show DL.finish [] (B_difference fuel [.val (.tup (encs t)), .val (.tup (encs o)), .emp, .emp, .emp, .emp, .emp]) = _
  have t1 : bNot (toB (fCallF (F_alike fuel) (aaVal (vGet 0) (aaVal (vGet 1) (aaNil))))) [.val (.tup (encs t)), .val (.tup (encs o)), .emp, .emp, .emp, .emp, .emp] = .ok (false, [.val (.tup (encs t)), .val (.tup (encs o)), .emp, .emp, .emp, .emp, .emp]) := by
    simp only [bNot, toB, fCallF, aaVal, aaNil, vGet, List.getElem?_cons_succ, List.getElem?_cons_zero, R.bind_ok, asOf, idxOf, Option.map_some, al, List.nodup_nil, if_true, putCs, Bool.not_true]
  have el' : forD (gTupD 2 (gConsD (gSet 3) (gConsD (gSet 4) (gNilD)))) (sIf (bOr (toB (fBin dIs (vGet 2) (vC .non))) (toB (fBin dLt (vGet 3) (fBin dGetI (vGet 2) (vC (.int 0)))))) (B_difference_i1 fuel) (sNx)) ((shapesC t).map encS) [.val (.tup (encs t)), .val (.tup (encs o)), .val .non, .emp, .emp, .emp, .emp] = .nx [.val (.tup (encs t)), .val (.tup (encs o)), .val (encB (bestC t o)), y3, y4, y5, y6] := el
  rw [B_difference, sSeq_nx (ds' := [.val (.tup (encs t)), .val (.tup (encs o)), .emp, .emp, .emp, .emp, .emp]) (by rw [sIf_f t1]; rfl),
    sSeq_nx (ds' := [.val (.tup (encs t)), .val (.tup (encs o)), .val .non, .emp, .emp, .emp, .emp]) (by rfl),
    sSeq_nx (by
      unfold sFor
      simp only [iSeq, fCallF, aaVal, aaNil, vGet, List.getElem?_cons_succ, List.getElem?_cons_zero, R.bind_ok, asOf, idxOf, Option.map_some, sh, List.nodup_nil, if_true, putCs, toOut_ok]
      exact el')]
  unfold diffC
  cases hb : bestC t o with
  | none => simp only [sRet, fIf, toB, fBin, vGet, vC, List.getElem?_cons_succ, List.getElem?_cons_zero, R.bind_ok, encB, dIs, isNonD, lft_some, if_true, toOut_ok]; rfl
  | some x =>
    have g1 : dGetI (.tup [.int x.1, .dic 0 (encR x.2)]) (.int 1) = some (.dic 0 (encR x.2)) := rfl
    simp only [sRet, fIf, toB, fBin, vGet, vC, List.getElem?_cons_succ, List.getElem?_cons_zero, R.bind_ok, encB, encS, dIs, isNonD, lft_some, Bool.false_eq_true, if_false, g1, toOut_ok]; rfl
end
/-! ### what the difference tells -/
theorem FitAll.mk {ps : List Pt} {r : Rec} (h : ∀ p ∈ ps, isText p = false → ∃ v, r.lookup (nm p) = some v ∧ FitV p v) : FitAll ps r := by
  induction ps with
  | nil => rw [FitAll]; trivial
  | cons p ps ih => rw [FitAll]; exact ⟨h p List.mem_cons_self, ih fun q hq => h q (List.mem_cons_of_mem _ hq)⟩
theorem fit_alkV {p q : Pt} (ek : kind q = kind p) (ht : isText p = false) (h : isField p = false → ∀ r, FitR (inn p) r → FitR (inn q) r) {v : Rv} (hv : FitV p v) : FitV q v := by
  cases p with
  | text s => simp [isText] at ht
  | field n => cases q with
    | field m => rw [FitV] at hv ⊢; exact hv
    | text s => simp [kind, kT, kF] at ek
    | opt m l => simp [kind, kI, kF] at ek
    | rep m s l => simp [kind, kE, kF] at ek
  | opt n ps => cases q with
    | opt m l =>
      rw [FitV] at hv ⊢
      exact hv.imp id fun ⟨r, e, hr⟩ => ⟨r, e, h rfl r hr⟩
    | text s => simp [kind, kT, kI] at ek
    | field m => simp [kind, kI, kF] at ek
    | rep m s l => simp [kind, kE, kI] at ek
  | rep n s ps => cases q with
    | rep m s l =>
      rw [FitV] at hv ⊢
      obtain ⟨rs, e, hl, hr⟩ := hv
      exact ⟨rs, e, hl, fun x hx => by obtain ⟨r, e, k⟩ := hr x hx; exact ⟨r, e, h rfl r k⟩⟩
    | text s => simp [kind, kT, kE] at ek
    | field m => simp [kind, kE, kF] at ek
    | opt m l => simp [kind, kI, kE] at ek
theorem fit_alk : ∀ (k : Nat) (t o : List Pt), Alk k t o → ∀ r : Rec, FitR t r → FitR o r
  | 0, _, _, h => h.elim
  | k + 1, t, o, h => fun r hr => by
    have hp := h.perm
    obtain ⟨n1, n2, h1, h2⟩ := h
    refine ⟨hr.1.trans hp, FitAll.mk fun q hq tq => ?_⟩
    obtain ⟨p, hpm, tp, e⟩ := h2 q hq tq
    obtain ⟨q', hq', e1, e2, e3, _⟩ := h1 p hpm tp
    have : q' = q := uniq_name n2 hq' hq (by rw [kind_isText e2]; exact tp) tq (e1.trans e)
    subst this
    obtain ⟨v, ev, hv⟩ := hr.2.mem p hpm tp
    exact ⟨v, by rw [e1]; exact ev, fit_alkV e2 tp (fun hf => fit_alk k _ _ (e3 hf)) hv⟩
theorem fit_in : ∀ n : Nat, ∀ (t : List Pt) (r : Rec), hgs t ≤ n → FitAll t r → InR WA MA t (look (.obj r)) := by
  intro n
  induction n with
  | zero =>
    intro t r h _
    cases t with
    | nil => rw [InR]; trivial
    | cons p t => rw [hgs] at h; omega
  | succ n ih =>
    intro t r h hf
    refine InR.mk fun p hp ht => ?_
    obtain ⟨v, e, hv⟩ := hf.mem p hp ht
    have hh := hgs_mem hp
    refine ⟨v, e, ?_⟩
    cases p with
    | text s => simp [isText] at ht
    | field m => rw [FitV] at hv; rw [InV]; obtain ⟨s, e, _⟩ := hv; exact ⟨s, e, trivial⟩
    | opt m ps => rw [FitV] at hv; rw [InV]; exact hv.imp id fun ⟨q, e, k⟩ => ⟨q, e, ih ps q (by simp only [hgP] at hh; omega) k.2⟩
    | rep m s ps =>
      rw [FitV] at hv; rw [InV]
      obtain ⟨rs, e, _, k⟩ := hv
      exact ⟨rs, e, trivial, fun x hx => by obtain ⟨q, e, k⟩ := k x hx; exact ⟨q, e, ih ps q (by simp only [hgP] at hh; omega) k.2⟩⟩
theorem word_lookup (g : List Sg → Option (List Nat)) (ρ : As) (π : List Sg) : ∀ {ps : List Pt}, (names ps).Nodup → ∀ {p : Pt}, p ∈ ps → isText p = false → (wordPs g ps ρ π).lookup (nm p) = some (wordP g p ρ π)
  | [], _, p, h, _ => by simp at h
  | q :: ps, nd, p, h, ht => by
    rw [names_cons] at nd
    rw [wordPs]
    cases tq : isText q with
    | true =>
      rw [if_pos tq] at nd
      rw [if_pos rfl]
      rcases List.mem_cons.mp h with z | z
      · subst z; rw [tq] at ht; cases ht
      · exact word_lookup g ρ π nd z ht
    | false =>
      rw [if_neg (by simp [tq])] at nd
      rw [if_neg (by simp)]
      obtain ⟨n1, n2⟩ := List.nodup_cons.mp nd
      rcases List.mem_cons.mp h with z | z
      · subst z; simp
      · have hne : (nm p == nm q) = false := by simpa using fun e : nm p = nm q => n1 (e ▸ mem_names z ht)
        rw [List.lookup_cons, hne]
        exact word_lookup g ρ π n2 z ht
theorem items_mapI (f : Rv → Nat → List El) (s : List El) (g : Rv → Nat → Rv) : ∀ (rs : List Rv) (k : Nat), items f s k (mapI g k rs) = items (fun x i => f (g x i) i) s k rs
  | [], _ => rfl
  | x :: rs, k => by rw [mapI, items, items, items_mapI f s g rs (k + 1)]
/-- rows stay -/
theorem word_row (g : List Sg → Option (List Nat)) : ∀ (k : Nat) (t x : List Pt), Alk k t x → ∀ (ρ : As) (π σ : List Sg), InR WA MA t ρ → rowPs x (look (.obj (wordPs g t ρ π))) σ = rowPs x ρ σ
  | 0, _, _, h => h.elim
  | k + 1, t, x, h => fun ρ π σ hρ => by
    obtain ⟨n1, n2, h1, h2⟩ := h
    have key : ∀ l : List Pt, (∀ y ∈ l, y ∈ x) → rowPs l (look (.obj (wordPs g t ρ π))) σ = rowPs l ρ σ := fun l => by
      induction l with
      | nil => intro _; simp [rowPs]
      | cons y l ihl =>
        intro hl
        rw [rowPs, rowPs, ihl fun z hz => hl z (List.mem_cons_of_mem _ hz)]
        congr 1
        have hy := hl y List.mem_cons_self
        cases ty : isText y with
        | true => cases y <;> simp [isText] at ty; simp [rowP]
        | false =>
          obtain ⟨p, hp, tp, e⟩ := h2 y hy ty
          obtain ⟨q', hq', e1, e2, e3, _⟩ := h1 p hp tp
          have : q' = y := uniq_name n2 hq' hy (by rw [kind_isText e2]; exact tp) ty (e1.trans e)
          subst this
          have lk : look (.obj (wordPs g t ρ π)) (nm q') = some (wordP g p ρ π) := by rw [e1]; exact word_lookup g ρ π n1 hp tp
          obtain ⟨v, ev, hv⟩ := hρ.mem p hp tp
          rw [← e1] at ev
          cases q' with
          | text s => simp [isText] at ty
          | field m => simp [rowP]
          | opt m qs => cases p with
            | opt n ps =>
              simp only [nm] at lk ev e1
              subst e1
              rw [InV] at hv
              rcases hv with rfl | ⟨r, rfl, hr⟩
              · simp only [rowP, lk, wordP, ev]
              · simp only [rowP, lk, wordP, ev]
                exact word_row g k ps qs (e3 rfl) _ _ _ hr
            | text s => simp [kind, kT, kI] at e2
            | field n => simp [kind, kF, kI] at e2
            | rep n s ps => simp [kind, kE, kI] at e2
          | rep m s qs => cases p with
            | rep n s' ps =>
              simp only [nm] at lk ev e1
              subst e1
              rw [InV] at hv
              obtain ⟨rs, rfl, _, hr⟩ := hv
              simp only [rowP, lk, wordP, ev]
              rw [items_mapI]
              refine items_congr _ _ _ _ _ fun z hz j => ?_
              obtain ⟨r, rfl, hr⟩ := hr z hz
              exact word_row g k ps qs (e3 rfl) _ _ _ hr
            | text s => simp [kind, kT, kE] at e2
            | field n => simp [kind, kF, kE] at e2
            | opt n ps => simp [kind, kE, kI] at e2
    exact key x fun _ h => h
/-- the text by a row and the words at its places -/
def subS (S : List Sg → List Nat) : El → List Nat
  | .ch c => [c]
  | .mk p => S p
theorem sub_chs (S : List Sg → List Nat) (s : List Nat) : (s.map El.ch).flatMap (subS S) = s := by
  induction s with
  | nil => rfl
  | cons c s ih => rw [List.map_cons, List.flatMap_cons, ih]; rfl
theorem items_flat (S : List Sg → List Nat) (s : List Nat) (f : Rv → Nat → List El) (F : Rv → List Nat) : ∀ (rs : List Rv) (k : Nat), (∀ (x : Rv) (j : Nat), rs[j]? = some x → (f x (k + j)).flatMap (subS S) = F x) → (items f (s.map .ch) k rs).flatMap (subS S) = tailJ s k (rs.map F)
  | [], _, _ => by simp [items, tailJ]
  | x :: rs, k, h => by
    have ih := items_flat S s f F rs (k + 1) fun y j hy => by
      have := h y (j + 1) (by simpa using hy)
      rwa [show k + (j + 1) = k + 1 + j by omega] at this
    have hx := h x 0 rfl
    rw [Nat.add_zero] at hx
    rw [items, List.map_cons, tailJ, List.flatMap_append, List.flatMap_append, hx, ih]
    congr 1
    congr 1
    split
    · exact sub_chs S s
    · rfl
def wordAt : List Sg → Rv → List Nat
  | [], .word w => w
  | .s n :: p, .obj r => match r.lookup n with
    | some v => wordAt p v
    | none => []
  | .i k :: p, .recs rs => match rs[k]? with
    | some v => wordAt p v
    | none => []
  | _, _ => []
theorem fill_row (S : List Sg → List Nat) : ∀ n : Nat, ∀ (t : List Pt) (r : Rec) (π : List Sg), hgs t ≤ n → InR WA MA t (look (.obj r)) → (∀ p, S (π ++ p) = wordAt p (.obj r)) → fillPs t r = (rowPs t (look (.obj r)) π).flatMap (subS S) := by
  intro n
  induction n with
  | zero =>
    intro t r π h _ _
    cases t with
    | nil => simp [fillPs, rowPs]
    | cons p t => rw [hgs] at h; omega
  | succ n ih =>
    intro t r π h hi hS
    induction t with
    | nil => simp [fillPs, rowPs]
    | cons p t iht =>
      rw [hgs] at h
      rw [InR] at hi
      rw [fillPs, rowPs, List.flatMap_append, iht (by omega) hi.2]
      congr 1
      cases p with
      | text s => simp only [fillP, rowP]; rw [sub_chs]
      | field m =>
        obtain ⟨v, e, hv⟩ := hi.1 rfl
        rw [InV] at hv
        obtain ⟨w, rfl, _⟩ := hv
        simp only [nm] at e
        have e' : r.lookup m = some (.word w) := e
        have := hS [.s m]
        rw [wordAt, e'] at this
        simp only [fillP, rowP, e', List.flatMap_cons, List.flatMap_nil, subS, this, wordAt, List.append_nil]
      | opt m ps =>
        obtain ⟨v, e, hv⟩ := hi.1 rfl
        rw [InV] at hv
        simp only [nm] at e
        have e' : r.lookup m = some v := e
        rcases hv with rfl | ⟨q, rfl, hq⟩
        · simp [fillP, rowP, e, e']
        · simp only [fillP, rowP, e, e']
          refine ih ps q (π ++ [.s m]) (by simp only [hgP] at h; omega) hq fun p => ?_
          have := hS (.s m :: p)
          simp only [wordAt, e'] at this
          rw [List.append_assoc]; exact this
      | rep m s ps =>
        obtain ⟨v, e, hv⟩ := hi.1 rfl
        rw [InV] at hv
        simp only [nm] at e
        have e' : r.lookup m = some v := e
        obtain ⟨rs, rfl, _, hr⟩ := hv
        simp only [fillP, rowP, e, e']
        rw [← tailJ_join]
        refine Eq.trans ?_ (items_flat S s _ (fun x => match x with | .obj q => fillPs ps q | _ => []) rs 0 ?_).symm
        · rfl
        intro x j hj
        obtain ⟨q, rfl, hq⟩ := hr x (List.mem_of_getElem? hj)
        rw [Nat.zero_add]
        refine (ih ps q (π ++ [.s m, .i j]) (by simp only [hgP] at h; omega) hq fun p => ?_).symm
        have := hS (.s m :: .i j :: p)
        simp only [wordAt, e', hj] at this
        rw [List.append_assoc]; exact this
/-- equal rows, equal texts -/
theorem fill_of_rows {t o : List Pt} {r : Rec} (ht : InR WA MA t (look (.obj r))) (ho : InR WA MA o (look (.obj r))) (h : rowT t r = rowT o r) : fillPs t r = fillPs o r := by
  rw [fill_row (fun p => wordAt p (.obj r)) (hgs t) t r [] (Nat.le_refl _) ht fun _ => rfl, fill_row (fun p => wordAt p (.obj r)) (hgs o) o r [] (Nat.le_refl _) ho fun _ => rfl]
  unfold rowT at h
  rw [h]
/-- the text of a record with words given by place -/
def gsub (g : List Sg → Option (List Nat)) (p : List Sg) : List Nat := (g p).getD [97]
theorem mapI_get (g : Rv → Nat → Rv) : ∀ (rs : List Rv) (k j : Nat) (y : Rv), (mapI g k rs)[j]? = some y → ∃ x, rs[j]? = some x ∧ y = g x (k + j)
  | [], _, _, _, h => by simp [mapI] at h
  | x :: rs, k, j, y, h => by
    rw [mapI] at h
    cases j with
    | zero => simp at h; exact ⟨x, rfl, by rw [Nat.add_zero]; exact h.symm⟩
    | succ j =>
      obtain ⟨z, e1, e2⟩ := mapI_get g rs (k + 1) j y (by simpa using h)
      exact ⟨z, by simpa using e1, by rw [e2]; congr 1; omega⟩
theorem mapI_len (g : Rv → Nat → Rv) : ∀ (rs : List Rv) (k : Nat), (mapI g k rs).length = rs.length
  | [], _ => rfl
  | x :: rs, k => by simp [mapI, mapI_len g rs]
theorem tailJ_mapI (s : List Nat) (G : Rv → Nat → Rv) (F : Rv → List Nat) : ∀ (rs : List Rv) (k : Nat) (F' : Rv → Nat → List Nat), (∀ x ∈ rs, ∀ j, F (G x j) = F' x j) → ∀ (f : Rv → Nat → List El) (S : List Sg → List Nat), (∀ x ∈ rs, ∀ j, (f x j).flatMap (subS S) = F' x j) → tailJ s k ((mapI G k rs).map F) = (items f (s.map .ch) k rs).flatMap (subS S)
  | [], _, _, _, _, _, _ => by simp [mapI, items, tailJ]
  | x :: rs, k, F', h1, f, S, h2 => by
    rw [mapI, List.map_cons, tailJ, items, List.flatMap_append, List.flatMap_append, tailJ_mapI s G F rs (k + 1) F' (fun y hy => h1 y (List.mem_cons_of_mem _ hy)) f S fun y hy => h2 y (List.mem_cons_of_mem _ hy), h1 x List.mem_cons_self, h2 x List.mem_cons_self]
    congr 1
    congr 1
    split
    · exact (sub_chs S s).symm
    · rfl
theorem word_fill (g : List Sg → Option (List Nat)) : ∀ (k : Nat) (t x : List Pt), Alk k t x → ∀ (ρ : As) (π : List Sg), InR W1 MA t ρ → fillPs x (wordPs g t ρ π) = (rowPs x ρ π).flatMap (subS (gsub g))
  | 0, _, _, h => h.elim
  | k + 1, t, x, h => fun ρ π hρ => by
    obtain ⟨n1, n2, h1, h2⟩ := h
    have key : ∀ l : List Pt, (∀ y ∈ l, y ∈ x) → fillPs l (wordPs g t ρ π) = (rowPs l ρ π).flatMap (subS (gsub g)) := fun l => by
      induction l with
      | nil => intro _; simp [rowPs, fillPs]
      | cons y l ihl =>
        intro hl
        rw [fillPs, rowPs, List.flatMap_append, ihl fun z hz => hl z (List.mem_cons_of_mem _ hz)]
        congr 1
        have hy := hl y List.mem_cons_self
        cases ty : isText y with
        | true => cases y <;> simp [isText] at ty; simp only [fillP, rowP]; rw [sub_chs]
        | false =>
          obtain ⟨p, hp, tp, e⟩ := h2 y hy ty
          obtain ⟨q', hq', e1, e2, e3, _⟩ := h1 p hp tp
          have : q' = y := uniq_name n2 hq' hy (by rw [kind_isText e2]; exact tp) ty (e1.trans e)
          subst this
          have lk : (wordPs g t ρ π).lookup (nm q') = some (wordP g p ρ π) := by rw [e1]; exact word_lookup g ρ π n1 hp tp
          obtain ⟨v, ev, hv⟩ := hρ.mem p hp tp
          rw [← e1] at ev
          cases q' with
          | text s => simp [isText] at ty
          | field m => cases p with
            | field n =>
              simp only [nm] at lk ev e1
              subst e1
              rw [InV] at hv
              obtain ⟨w, rfl, rfl⟩ := hv
              simp only [fillP, lk, wordP, ev, rowP, List.flatMap_cons, List.flatMap_nil, List.append_nil, subS, gsub]
              cases g (π ++ [.s m]) <;> simp
            | text s => simp [kind, kT, kF] at e2
            | opt n ps => simp [kind, kI, kF] at e2
            | rep n s ps => simp [kind, kE, kF] at e2
          | opt m qs => cases p with
            | opt n ps =>
              simp only [nm] at lk ev e1
              subst e1
              rw [InV] at hv
              rcases hv with rfl | ⟨r, rfl, hr⟩
              · simp [fillP, rowP, lk, wordP, ev]
              · simp only [fillP, rowP, lk, wordP, ev]
                exact word_fill g k ps qs (e3 rfl) _ _ hr
            | text s => simp [kind, kT, kI] at e2
            | field n => simp [kind, kF, kI] at e2
            | rep n s ps => simp [kind, kE, kI] at e2
          | rep m s qs => cases p with
            | rep n s' ps =>
              simp only [nm] at lk ev e1
              subst e1
              rw [InV] at hv
              obtain ⟨rs, rfl, _, hr⟩ := hv
              simp only [fillP, rowP, lk, wordP, ev]
              rw [← tailJ_join]
              refine tailJ_mapI s _ _ rs 0 (fun x j => fillPs qs (wordPs g ps (look x) (π ++ [.s m, .i j]))) (fun _ _ _ => rfl) _ _ fun z hz j => ?_
              obtain ⟨r, rfl, hr⟩ := hr z hz
              exact (word_fill g k ps qs (e3 rfl) _ _ hr).symm
            | text s => simp [kind, kT, kE] at e2
            | field n => simp [kind, kF, kE] at e2
            | opt n ps => simp [kind, kE, kI] at e2
    exact key x fun _ h => h
/-- records with given words: of the template -/
theorem word_gen (g : List Sg → Option (List Nat)) (hg : ∀ p w, g p = some w → overB w LET 1 8 = true) : ∀ n : Nat, ∀ (t : List Pt) (r : Rec) (π : List Sg), hgs t ≤ n → FitAll t r → GenR t (wordPs g t (look (.obj r)) π) := by
  intro n
  induction n with
  | zero =>
    intro t r π h _
    cases t with
    | nil => rw [GenR, wordPs]
    | cons p t => rw [hgs] at h; omega
  | succ n ih =>
    intro t r π h hf
    induction t with
    | nil => rw [GenR, wordPs]
    | cons p t iht =>
      rw [hgs] at h
      rw [FitAll] at hf
      rw [GenR, wordPs]
      cases ht : isText p with
      | true => exact .inl ⟨rfl, by rw [if_pos rfl]; exact iht (by omega) hf.2⟩
      | false =>
        refine .inr ⟨rfl, _, _, by rw [if_neg (by simp)], ?_, iht (by omega) hf.2⟩
        obtain ⟨v, e, hv⟩ := hf.1 ht
        have el : look (.obj r) (nm p) = some v := e
        cases p with
        | text s => simp [isText] at ht
        | field m =>
          rw [GenV]
          simp only [nm] at el
          simp only [wordP, el]
          cases hgp : g (π ++ [.s m]) with
          | some w => exact ⟨w, rfl, hg _ _ hgp⟩
          | none => rw [FitV] at hv; obtain ⟨s, rfl, k⟩ := hv; exact ⟨s, rfl, k⟩
        | opt m ps =>
          rw [GenV]
          simp only [nm] at el
          rw [FitV] at hv
          rcases hv with rfl | ⟨q, rfl, hq⟩
          · exact .inl (by simp only [wordP, el])
          · exact .inr ⟨wordPs g ps (look (.obj q)) (π ++ [.s m]), by simp only [wordP, el], ih ps q _ (by simp only [hgP] at h; omega) hq.2⟩
        | rep m s ps =>
          rw [GenV]
          simp only [nm] at el
          rw [FitV] at hv
          obtain ⟨rs, rfl, hl, hr⟩ := hv
          refine ⟨_, by simp only [wordP, el]; rfl, by rw [mapI_len]; exact hl, fun x hx => ?_⟩
          obtain ⟨j, hj, ej⟩ := List.mem_iff_getElem.mp hx
          obtain ⟨y, ey, rfl⟩ := mapI_get _ rs 0 j x (by rw [List.getElem?_eq_getElem hj, ej])
          obtain ⟨q, rfl, hq⟩ := hr y (List.mem_of_getElem? ey)
          exact ⟨_, rfl, ih ps q _ (by simp only [hgP] at h; omega) hq.2⟩
/-! sizes -/
def W1L (s : List Nat) : Prop := s.length = 1
theorem rvR_sum : ∀ r : Rec, rvR r = (r.map fun kv => rvV kv.2).sum
  | [] => by simp [rvR]
  | (k, v) :: r => by simp [rvR, rvR_sum r]
theorem rv_lookup {r : Rec} (nd : (r.map (·.1)).Nodup) : rvR r = ((r.map (·.1)).map fun n => ((r.lookup n).map rvV).getD 0).sum := by
  rw [rvR_sum, List.map_map]
  congr 1
  refine List.map_congr_left fun kv hkv => ?_
  have := lookup_mem nd (k := kv.1) (v := kv.2) hkv
  simp [this]
theorem rv_perm {r : Rec} {l : List (List Nat)} (hp : (r.map (·.1)).Perm l) (nd : l.Nodup) : rvR r = (l.map fun n => ((r.lookup n).map rvV).getD 0).sum := by
  rw [rv_lookup (hp.nodup_iff.mpr nd)]
  exact (hp.map _).sum_nat
theorem word_sum (g : List Sg → Option (List Nat)) (ρ : As) (π : List Sg) : ∀ ps : List Pt, rvR (wordPs g ps ρ π) = ((named ps).map fun p => rvV (wordP g p ρ π)).sum
  | [] => by simp [wordPs, rvR, named]
  | p :: ps => by
    rw [wordPs]
    cases ht : isText p with
    | true =>
      rw [if_pos rfl, word_sum g ρ π ps]
      simp [named, ht]
    | false =>
      rw [if_neg (by simp), rvR, word_sum g ρ π ps]
      simp [named, ht]
theorem mapI_rv (G : Rv → Nat → Rv) : ∀ (rs : List Rv) (k : Nat), (∀ x ∈ rs, ∀ j, rvV (G x j) = rvV x) → rvS (mapI G k rs) = rvS rs
  | [], _, _ => rfl
  | x :: rs, k, h => by rw [mapI, rvS, rvS, h x List.mem_cons_self, mapI_rv G rs (k + 1) fun y hy => h y (List.mem_cons_of_mem _ hy)]
theorem word_size (g : List Sg → Option (List Nat)) (hg : ∀ p w, g p = some w → w.length = 1) : ∀ n : Nat, ∀ (d : Nat) (t : List Pt) (r : Rec) (π : List Sg), hgs t ≤ n → goodPs d t = true → FitR t r → InR W1L MA t (look (.obj r)) → rvR (wordPs g t (look (.obj r)) π) = rvR r := by
  intro n
  induction n with
  | zero =>
    intro d t r π h hgd _ _
    have := (good_parts hgd).1
    cases t with
    | nil => simp at this
    | cons p t => rw [hgs] at h; omega
  | succ n ih =>
    intro d t r π h hgd hf hi
    obtain ⟨g1, g2, g3, g4⟩ := good_parts hgd
    have nd := (distinct_nodup _).mp g4
    rw [word_sum, rv_perm hf.1 nd]
    unfold names
    rw [List.map_map]
    congr 1
    refine List.map_congr_left fun p hp => ?_
    obtain ⟨hpm, hx⟩ := List.mem_filter.mp hp
    have ht : isText p = false := by simpa using hx
    obtain ⟨v, e, hv⟩ := hf.2.mem p hpm ht
    obtain ⟨v', e', hv'⟩ := hi.mem p hpm ht
    have el : look (.obj r) (nm p) = some v := e
    rw [el] at e'
    cases e'
    have gp := List.all_eq_true.mp g3 p hpm
    have hh := hgs_mem hpm
    show rvV (wordP g p (look (.obj r)) π) = ((r.lookup (nm p)).map rvV).getD 0
    rw [e]
    simp only [Option.map_some, Option.getD_some]
    cases p with
    | text s => simp [isText] at ht
    | field m =>
      simp only [nm] at el
      rw [InV] at hv'
      obtain ⟨s, rfl, hs⟩ := hv'
      have hs : s.length = 1 := hs
      simp only [wordP, el]
      cases hgp : g (π ++ [.s m]) with
      | some w => simp only [rvV]; rw [hg _ _ hgp, hs]
      | none => rfl
    | opt m ps =>
      simp only [nm] at el
      rw [FitV] at hv
      rw [InV] at hv'
      have gi := good_inn gp rfl rfl
      rcases hv with rfl | ⟨q, rfl, hq⟩
      · simp only [wordP, el]
      · rcases hv' with z | ⟨q', z, hq'⟩
        · cases z
        · cases z
          simp only [wordP, el, rvV]
          rw [ih (d - 1) ps q _ (by simp only [hgP] at hh; omega) gi hq hq']
    | rep m s ps =>
      simp only [nm] at el
      rw [FitV] at hv
      rw [InV] at hv'
      have gi := good_inn gp rfl rfl
      obtain ⟨rs, rfl, _, hr⟩ := hv
      obtain ⟨rs', z, _, hr'⟩ := hv'
      cases z
      simp only [wordP, el, rvV]
      refine mapI_rv _ rs 0 fun x hx j => ?_
      obtain ⟨q, rfl, hq⟩ := hr x hx
      obtain ⟨q', z, hq'⟩ := hr' _ hx
      cases z
      simp only [rvV]
      rw [ih (d - 1) ps q _ (by simp only [hgP] at hh; omega) gi hq hq']
/-! ### the samples are all small records; the best of them -/
mutual
def SmV (Wd : List (List Nat)) : Pt → Rv → Prop
  | .text _, _ => False
  | .field _, v => ∃ w, w ∈ Wd ∧ v = .word w
  | .opt _ ps, v => v = .none ∨ ∃ r, v = .obj r ∧ SmG Wd ps r
  | .rep _ _ ps, v => ∃ rs, v = .recs rs ∧ rs.length ≤ 2 ∧ ∀ x ∈ rs, ∃ r, x = .obj r ∧ SmG Wd ps r
def SmG (Wd : List (List Nat)) : List Pt → Rec → Prop
  | [], r => r = []
  | p :: ps, r => (isText p = true ∧ SmG Wd ps r) ∨ (isText p = false ∧ ∃ v q, r = (nm p, v) :: q ∧ SmV Wd p v ∧ SmG Wd ps q)
end
def A1 : List (List Nat) := [[97]]
theorem rvR_app : ∀ a b : Rec, rvR (a ++ b) = rvR a + rvR b
  | [], b => by simp [rvR]
  | (k, v) :: a, b => by rw [List.cons_append, rvR, rvR, rvR_app a b]; omega
theorem mem_ext1 {n : List Nat} {V : List (Nat × Rv)} {acc : List (Nat × Rec)} {x : Nat × Rec} : x ∈ ext1 n V acc ↔ ∃ y ∈ acc, ∃ z ∈ V, x = (y.1 + z.1, y.2 ++ [(n, z.2)]) := by
  unfold ext1
  rw [List.mem_flatMap]
  constructor
  · rintro ⟨y, hy, hx⟩
    obtain ⟨z, hz, rfl⟩ := List.mem_map.mp hx
    exact ⟨y, hy, z, hz, rfl⟩
  · rintro ⟨y, hy, z, hz, rfl⟩
    exact ⟨y, hy, List.mem_map.mpr ⟨z, hz, rfl⟩⟩
theorem shapes_mem : ∀ n : Nat, ∀ (ps : List Pt) (acc : List (Nat × Rec)) (x : Nat × Rec), hgs ps ≤ n → (x ∈ shapesA ps acc ↔ ∃ y ∈ acc, ∃ q, SmG A1 ps q ∧ x = (y.1 + rvR q, y.2 ++ q)) := by
  intro n
  induction n with
  | zero =>
    intro ps acc x h
    cases ps with
    | nil => simp [shapesA, SmG, rvR]
    | cons p ps => rw [hgs] at h; omega
  | succ n ih =>
    have one : ∀ (ps : List Pt) (x : Nat × Rec), hgs ps ≤ n → (x ∈ shapesA ps [(0, [])] ↔ SmG A1 ps x.2 ∧ x.1 = rvR x.2) := fun ps x h => by
      rw [ih ps _ x h]
      constructor
      · rintro ⟨y, hy, q, hq, rfl⟩
        rw [List.mem_singleton] at hy
        subst hy
        simp [hq]
      · rintro ⟨h1, h2⟩
        exact ⟨(0, []), List.mem_singleton.mpr rfl, x.2, h1, by simp [← h2]⟩
    have val : ∀ (p : Pt) (z : Nat × Rv), hgP p ≤ n → isText p = false → (z ∈ valsP p ↔ SmV A1 p z.2 ∧ z.1 = rvV z.2) := fun p z h ht => by
      cases p with
      | text s => simp [isText] at ht
      | field m =>
        obtain ⟨a, v⟩ := z
        rw [valsP, SmV, List.mem_singleton]
        constructor
        · intro e; cases e; exact ⟨⟨[97], by simp [A1], rfl⟩, rfl⟩
        · rintro ⟨⟨w, hw, e1⟩, e2⟩
          simp only at e1 e2
          have : w = [97] := by simpa [A1] using hw
          subst this; subst e1; simp [e2, rvV]
      | opt m ps =>
        obtain ⟨a, v⟩ := z
        rw [valsP, SmV, optVals, List.mem_cons, List.mem_map]
        constructor
        · rintro (e | ⟨x, hx, e⟩)
          · cases e; exact ⟨.inl rfl, by simp [rvV]⟩
          · cases e
            obtain ⟨h1, h2⟩ := (one ps x (by simpa [hgP] using h)).mp hx
            exact ⟨.inr ⟨x.2, rfl, h1⟩, by simp [rvV, h2]⟩
        · rintro ⟨e1, e2⟩
          simp only at e1 e2
          rcases e1 with rfl | ⟨r, rfl, hr⟩
          · left; simp [e2, rvV]
          · right
            exact ⟨(rvR r, r), (one ps _ (by simpa [hgP] using h)).mpr ⟨hr, rfl⟩, by simp [e2, rvV]⟩
      | rep m s ps =>
        obtain ⟨a, v⟩ := z
        have hn : hgs ps ≤ n := by simpa [hgP] using h
        rw [valsP, SmV, repVals, List.mem_append, List.mem_cons, List.mem_map, List.mem_flatMap]
        constructor
        · rintro ((e | ⟨x, hx, e⟩) | ⟨x, hx, e⟩)
          · cases e; exact ⟨⟨[], rfl, by simp, by simp⟩, by simp [rvV, rvS]⟩
          · cases e
            obtain ⟨h1, h2⟩ := (one ps x hn).mp hx
            exact ⟨⟨[.obj x.2], rfl, by simp, fun y hy => by rw [List.mem_singleton] at hy; exact ⟨_, hy, h1⟩⟩, by simp [rvV, rvS, h2]⟩
          · obtain ⟨y, hy, e⟩ := List.mem_map.mp e
            cases e
            obtain ⟨h1, h2⟩ := (one ps x hn).mp hx
            obtain ⟨h3, h4⟩ := (one ps y hn).mp hy
            refine ⟨⟨[.obj x.2, .obj y.2], rfl, by simp, fun w hw => ?_⟩, by simp [rvV, rvS, h2, h4]; omega⟩
            simp only [List.mem_cons, List.not_mem_nil, or_false] at hw
            rcases hw with rfl | rfl
            · exact ⟨_, rfl, h1⟩
            · exact ⟨_, rfl, h3⟩
        · rintro ⟨⟨rs, e1, hl, hr⟩, e2⟩
          simp only at e1 e2
          subst e1
          match rs, hl, hr, e2 with
          | [], _, _, e2 => left; left; simp [e2, rvV, rvS]
          | [w], _, hr, e2 =>
            obtain ⟨r, rfl, k⟩ := hr w List.mem_cons_self
            left; right
            exact ⟨(rvR r, r), (one ps _ hn).mpr ⟨k, rfl⟩, by simp [e2, rvV, rvS]⟩
          | [w, w'], _, hr, e2 =>
            obtain ⟨r, rfl, k⟩ := hr w List.mem_cons_self
            obtain ⟨r', rfl, k'⟩ := hr w' (List.mem_cons_of_mem _ List.mem_cons_self)
            right
            refine ⟨(rvR r, r), (one ps _ hn).mpr ⟨k, rfl⟩, List.mem_map.mpr ⟨(rvR r', r'), (one ps _ hn).mpr ⟨k', rfl⟩, ?_⟩⟩
            simp [e2, rvV, rvS]; omega
          | _ :: _ :: _ :: _, hl, _, _ => simp at hl
    intro ps
    induction ps with
    | nil => intro acc x _; simp [shapesA, SmG, rvR]
    | cons p ps ihp =>
      intro acc x h
      rw [hgs] at h
      rw [shapesA, ihp _ x (by omega)]
      cases ht : isText p with
      | true =>
        rw [if_pos rfl]
        constructor
        · rintro ⟨y, hy, q, hq, e⟩
          exact ⟨y, hy, q, by rw [SmG]; exact .inl ⟨ht, hq⟩, e⟩
        · rintro ⟨y, hy, q, hq, e⟩
          rw [SmG] at hq
          rcases hq with ⟨_, hq⟩ | ⟨z, _⟩
          · exact ⟨y, hy, q, hq, e⟩
          · rw [ht] at z; cases z
      | false =>
        rw [if_neg (by simp)]
        constructor
        · rintro ⟨y, hy, q, hq, rfl⟩
          obtain ⟨w, hw, z, hz, rfl⟩ := mem_ext1.mp hy
          obtain ⟨k1, k2⟩ := (val p z (by omega) ht).mp hz
          refine ⟨w, hw, (nm p, z.2) :: q, by rw [SmG]; exact .inr ⟨ht, z.2, q, rfl, k1, hq⟩, ?_⟩
          simp [rvR, k2]; omega
        · rintro ⟨y, hy, q, hq, rfl⟩
          rw [SmG] at hq
          rcases hq with ⟨z, _⟩ | ⟨_, v, q', rfl, hv, hq'⟩
          · rw [ht] at z; cases z
          · refine ⟨(y.1 + rvV v, y.2 ++ [(nm p, v)]), mem_ext1.mpr ⟨y, hy, (rvV v, v), (val p _ (by omega) ht).mpr ⟨hv, rfl⟩, rfl⟩, q', hq', ?_⟩
            simp [rvR]; omega
theorem shapesC_mem (t : List Pt) (x : Nat × Rec) : x ∈ shapesC t ↔ SmG A1 t x.2 ∧ x.1 = rvR x.2 := by
  unfold shapesC
  rw [shapes_mem (hgs t) t _ x (Nat.le_refl _)]
  constructor
  · rintro ⟨y, hy, q, hq, rfl⟩
    rw [List.mem_singleton] at hy
    subst hy
    simp [hq]
  · rintro ⟨h1, h2⟩
    exact ⟨(0, []), List.mem_singleton.mpr rfl, x.2, h1, by simp [← h2]⟩
theorem sm_gen {Wd : List (List Nat)} (hW : ∀ w ∈ Wd, overB w LET 1 8 = true) : ∀ n : Nat, ∀ (t : List Pt) (r : Rec), hgs t ≤ n → SmG Wd t r → GenR t r := by
  intro n
  induction n with
  | zero =>
    intro t r h hs
    cases t with
    | nil => rw [SmG] at hs; rw [GenR]; exact hs
    | cons p t => rw [hgs] at h; omega
  | succ n ih =>
    intro t
    induction t with
    | nil => intro r _ hs; rw [SmG] at hs; rw [GenR]; exact hs
    | cons p t iht =>
      intro r h hs
      rw [hgs] at h
      rw [SmG] at hs
      rw [GenR]
      refine hs.imp (fun ⟨a, b⟩ => ⟨a, iht r (by omega) b⟩) fun ⟨a, v, q, e, hv, hq⟩ => ⟨a, v, q, e, ?_, iht q (by omega) hq⟩
      cases p with
      | text s => rw [SmV] at hv; exact hv.elim
      | field m => rw [SmV] at hv; rw [GenV]; obtain ⟨w, hw, e⟩ := hv; exact ⟨w, e, hW w hw⟩
      | opt m ps => rw [SmV] at hv; rw [GenV]; exact hv.imp id fun ⟨r, e, k⟩ => ⟨r, e, ih ps r (by simp only [hgP] at h; omega) k⟩
      | rep m s ps =>
        rw [SmV] at hv; rw [GenV]
        obtain ⟨rs, e, hl, hr⟩ := hv
        exact ⟨rs, e, by omega, fun x hx => by obtain ⟨r, e, k⟩ := hr x hx; exact ⟨r, e, ih ps r (by simp only [hgP] at h; omega) k⟩⟩
theorem sm_in {Wd : List (List Nat)} : ∀ n : Nat, ∀ (d : Nat) (t : List Pt) (r : Rec), hgs t ≤ n → goodPs d t = true → SmG Wd t r → InR (· ∈ Wd) M2 t (look (.obj r)) := by
  intro n
  induction n with
  | zero =>
    intro d t r h hg _
    have := (good_parts hg).1
    cases t with
    | nil => simp at this
    | cons p t => rw [hgs] at h; omega
  | succ n ih =>
    intro d t r h hg hs
    obtain ⟨g1, g2, g3, g4⟩ := good_parts hg
    have nd := (distinct_nodup _).mp g4
    have val : ∀ p ∈ t, ∀ v, SmV Wd p v → InV (· ∈ Wd) M2 p v := fun p hp v hv => by
      have hh := hgs_mem hp
      have gp := List.all_eq_true.mp g3 p hp
      cases p with
      | text s => rw [SmV] at hv; exact hv.elim
      | field m => rw [SmV] at hv; rw [InV]; obtain ⟨w, hw, e⟩ := hv; exact ⟨w, e, hw⟩
      | opt m ps => rw [SmV] at hv; rw [InV]; exact hv.imp id fun ⟨r, e, k⟩ => ⟨r, e, ih (d - 1) ps r (by simp only [hgP] at hh; omega) (good_inn gp rfl rfl) k⟩
      | rep m s ps =>
        rw [SmV] at hv; rw [InV]
        obtain ⟨rs, e, hl, hr⟩ := hv
        exact ⟨rs, e, hl, fun x hx => by obtain ⟨r, e, k⟩ := hr x hx; exact ⟨r, e, ih (d - 1) ps r (by simp only [hgP] at hh; omega) (good_inn gp rfl rfl) k⟩⟩
    have go : ∀ (l : List Pt) (r : Rec), (∀ p ∈ l, p ∈ t) → (names l).Nodup → SmG Wd l r → InR (· ∈ Wd) M2 l (look (.obj r)) := fun l => by
      induction l with
      | nil => intro r _ _ _; rw [InR]; trivial
      | cons p l ihl =>
        intro r hl nd hs
        rw [SmG] at hs
        rw [names_cons] at nd
        rcases hs with ⟨ht, hs⟩ | ⟨ht, v, q, rfl, hv, hq⟩
        · rw [if_pos ht] at nd
          rw [InR]
          exact ⟨fun z => by (rw [ht] at z; cases z), ihl r (fun z hz => hl z (List.mem_cons_of_mem _ hz)) nd hs⟩
        · rw [if_neg (by simp [ht])] at nd
          obtain ⟨n1, n2⟩ := List.nodup_cons.mp nd
          rw [InR]
          refine ⟨fun _ => ⟨v, by show List.lookup (nm p) ((nm p, v) :: q) = _; simp, val p (hl p List.mem_cons_self) v hv⟩, (ihl q (fun z hz => hl z (List.mem_cons_of_mem _ hz)) n2 hq).congr fun m hm => ?_⟩
          have hne : (m == nm p) = false := by simpa using fun e : m = nm p => n1 (e ▸ hm)
          show q.lookup m = List.lookup m ((nm p, v) :: q)
          rw [List.lookup_cons, hne]
    exact go t r (fun _ h => h) nd hs
def allA (_ : List Sg) : Option (List Nat) := some [97]
theorem sh_word {W : List Nat → Prop} : ∀ n : Nat, ∀ (t : List Pt) (ρ : As) (π : List Sg), hgs t ≤ n → InR W M2 t ρ → SmG A1 t (wordPs allA t ρ π) := by
  intro n
  induction n with
  | zero =>
    intro t ρ π h _
    cases t with
    | nil => rw [SmG, wordPs]
    | cons p t => rw [hgs] at h; omega
  | succ n ih =>
    intro t ρ π
    induction t with
    | nil => intro _ _; rw [SmG, wordPs]
    | cons p t iht =>
      intro h hi
      rw [hgs] at h
      rw [InR] at hi
      rw [SmG, wordPs]
      cases ht : isText p with
      | true => exact .inl ⟨rfl, by rw [if_pos rfl]; exact iht (by omega) hi.2⟩
      | false =>
        refine .inr ⟨rfl, _, _, by rw [if_neg (by simp)], ?_, iht (by omega) hi.2⟩
        obtain ⟨v, e, hv⟩ := hi.1 ht
        cases p with
        | text s => simp [isText] at ht
        | field m => rw [SmV]; exact ⟨[97], by simp [A1], rfl⟩
        | opt m ps =>
          simp only [nm] at e
          rw [InV] at hv
          rw [SmV]
          rcases hv with rfl | ⟨q, rfl, hq⟩
          · exact .inl (by simp only [wordP, e])
          · exact .inr ⟨wordPs allA ps (look (.obj q)) (π ++ [.s m]), by simp only [wordP, e], ih ps _ _ (by simp only [hgP] at h; omega) hq⟩
        | rep m s ps =>
          simp only [nm] at e
          rw [InV] at hv
          rw [SmV]
          obtain ⟨rs, rfl, hl, hr⟩ := hv
          refine ⟨_, by simp only [wordP, e]; rfl, by rw [mapI_len]; exact hl, fun x hx => ?_⟩
          obtain ⟨j, hj, ej⟩ := List.mem_iff_getElem.mp hx
          obtain ⟨y, ey, rfl⟩ := mapI_get _ rs 0 j x (by rw [List.getElem?_eq_getElem hj, ej])
          obtain ⟨q, rfl, hq⟩ := hr y (List.mem_of_getElem? ey)
          exact ⟨_, rfl, ih ps _ _ (by simp only [hgP] at h; omega) hq⟩
theorem in_alk {W : List Nat → Prop} {M : Nat → Prop} : ∀ (k : Nat) (t o : List Pt), Alk k t o → ∀ ρ : As, InR W M t ρ → InR W M o ρ
  | 0, _, _, h => h.elim
  | k + 1, t, o, h => fun ρ hr => by
    obtain ⟨n1, n2, h1, h2⟩ := h
    refine InR.mk fun q hq tq => ?_
    obtain ⟨p, hpm, tp, e⟩ := h2 q hq tq
    obtain ⟨q', hq', e1, e2, e3, _⟩ := h1 p hpm tp
    have : q' = q := uniq_name n2 hq' hq (by rw [kind_isText e2]; exact tp) tq (e1.trans e)
    subst this
    obtain ⟨v, ev, hv⟩ := hr.mem p hpm tp
    refine ⟨v, by rw [e1]; exact ev, ?_⟩
    cases p with
    | text s => simp [isText] at tp
    | field n => cases q' with
      | field m => rw [InV] at hv ⊢; exact hv
      | text s => simp [kind, kT, kF] at e2
      | opt m l => simp [kind, kI, kF] at e2
      | rep m s l => simp [kind, kE, kF] at e2
    | opt n ps => cases q' with
      | opt m l => rw [InV] at hv ⊢; exact hv.imp id fun ⟨r, e, hr⟩ => ⟨r, e, in_alk k _ _ (e3 rfl) _ hr⟩
      | text s => simp [kind, kT, kI] at e2
      | field m => simp [kind, kI, kF] at e2
      | rep m s l => simp [kind, kE, kI] at e2
    | rep n s ps => cases q' with
      | rep m s l =>
        rw [InV] at hv ⊢
        obtain ⟨rs, e, hl, hr⟩ := hv
        exact ⟨rs, e, hl, fun x hx => by obtain ⟨r, e, k2⟩ := hr x hx; exact ⟨r, e, in_alk k _ _ (e3 rfl) _ k2⟩⟩
      | text s => simp [kind, kT, kE] at e2
      | field m => simp [kind, kE, kF] at e2
      | opt m l => simp [kind, kI, kE] at e2
/-! the fold -/
theorem best_none {t o : List Pt} : ∀ (L : List (Nat × Rec)) (b : Option (Nat × Rec)), L.foldl (stepB t o) b = none → b = none ∧ ∀ x ∈ L, rowT t x.2 = rowT o x.2
  | [], b, h => ⟨h, fun x hx => by simp at hx⟩
  | x :: L, b, h => by
    rw [List.foldl_cons] at h
    obtain ⟨h1, h2⟩ := best_none L _ h
    unfold stepB at h1
    by_cases hc : lessB b x.1 = true ∧ rowT t x.2 ≠ rowT o x.2
    · rw [if_pos hc] at h1; cases h1
    · rw [if_neg hc] at h1
      subst h1
      refine ⟨rfl, fun y hy => ?_⟩
      rcases List.mem_cons.mp hy with rfl | hy
      · exact Decidable.not_not.mp fun z => hc ⟨rfl, z⟩
      · exact h2 y hy
theorem best_some {t o : List Pt} : ∀ (L : List (Nat × Rec)) (b : Option (Nat × Rec)) (y : Nat × Rec), L.foldl (stepB t o) b = some y → (b = some y ∨ ∃ x ∈ L, rowT t x.2 ≠ rowT o x.2 ∧ y = (x.1, wordPs (wlook (wordsFor (rowT t x.2) (rowT o x.2))) t (look (.obj x.2)) [])) ∧ (∀ x ∈ L, rowT t x.2 ≠ rowT o x.2 → y.1 ≤ x.1) ∧ ∀ z, b = some z → y.1 ≤ z.1
  | [], b, y, h => ⟨.inl h, fun x hx => by simp at hx, fun z hz => by
      rw [List.foldl_nil] at h
      rw [h] at hz; cases hz; exact Nat.le_refl _⟩
  | x :: L, b, y, h => by
    rw [List.foldl_cons] at h
    obtain ⟨h1, h2, h3⟩ := best_some L _ y h
    unfold stepB at h1 h3
    by_cases hc : lessB b x.1 = true ∧ rowT t x.2 ≠ rowT o x.2
    · rw [if_pos hc] at h1 h3
      have hyx := h3 _ rfl
      refine ⟨.inr ?_, fun z hz hd => ?_, fun z hz => ?_⟩
      · rcases h1 with h1 | ⟨w, hw, k⟩
        · exact ⟨x, List.mem_cons_self, hc.2, by cases h1; rfl⟩
        · exact ⟨w, List.mem_cons_of_mem _ hw, k⟩
      · rcases List.mem_cons.mp hz with rfl | hz
        · exact hyx
        · exact h2 z hz hd
      · subst hz
        have := hc.1
        simp only [lessB, decide_eq_true_eq] at this
        simp only at hyx
        omega
    · rw [if_neg hc] at h1 h3
      refine ⟨h1.imp id fun ⟨w, hw, k⟩ => ⟨w, List.mem_cons_of_mem _ hw, k⟩, fun z hz hd => ?_, h3⟩
      rcases List.mem_cons.mp hz with rfl | hz
      · cases b with
        | none => exact absurd ⟨rfl, hd⟩ hc
        | some w =>
          have hw := h3 w rfl
          have : ¬ z.1 < w.1 := fun q => hc ⟨by simpa [lessB] using q, hd⟩
          omega
      · exact h2 z hz hd
/-! the words chosen make the texts differ -/
def ws1 (ws : Ws) : Prop := ∀ p w, ws = some (p, w) → w = [97] ∨ w = [98]
theorem pick1 (a b : El) : ws1 (pickW a b) := by
  intro p w e
  cases a <;> cases b <;> simp only [pickW, Option.some.injEq, Prod.mk.injEq, reduceCtorEq] at e
  all_goals obtain ⟨_, rfl⟩ := e; (first | exact .inr rfl | (split <;> simp))
theorem wfL1 : ∀ a b : List El, ws1 (wfL a b)
  | [], b => by intro p w e; simp [wfL] at e
  | _ :: _, [] => by intro p w e; simp [wfL] at e
  | a :: r, b :: s => by
    rw [wfL]
    split
    · exact wfL1 r s
    · exact pick1 a b
theorem wordsFor1 (a b : List El) : ws1 (wordsFor a b) := by
  unfold wordsFor
  split
  · exact wfL1 a b
  · intro p w e; cases e
theorem wlook1 {ws : Ws} (h : ws1 ws) {p : List Sg} {w : List Nat} (e : wlook ws p = some w) : w = [97] ∨ w = [98] := by
  unfold wlook at e
  split at e
  · rename_i q w'
    split at e
    · cases e; exact h _ _ rfl
    · cases e
  · cases e
theorem sub1 {ws : Ws} (h : ws1 ws) (x : El) : ∃ c, subS (gsub (wlook ws)) x = [c] := by
  cases x with
  | ch c => exact ⟨c, rfl⟩
  | mk p =>
    cases e : wlook ws p with
    | none => exact ⟨97, by simp [subS, gsub, e]⟩
    | some w =>
      rcases wlook1 h e with rfl | rfl
      · exact ⟨97, by simp only [subS, gsub, e, Option.getD_some]⟩
      · exact ⟨98, by simp only [subS, gsub, e, Option.getD_some]⟩
theorem flat_len {ws : Ws} (h : ws1 ws) : ∀ l : List El, (l.flatMap (subS (gsub (wlook ws)))).length = l.length
  | [] => rfl
  | x :: l => by
    obtain ⟨c, e⟩ := sub1 h x
    rw [List.flatMap_cons, List.length_append, e, flat_len h l]
    simp; omega
theorem pick_ne {a b : El} (h : a ≠ b) : subS (gsub (wlook (pickW a b))) a ≠ subS (gsub (wlook (pickW a b))) b := by
  cases a with
  | mk p => cases b with
    | mk q =>
      have hpq : p ≠ q := fun z => h (by rw [z])
      simp [subS, gsub, pickW, wlook, hpq]
    | ch c =>
      by_cases hc : c = 97
      · subst hc; simp [subS, gsub, pickW, wlook]
      · simp [subS, gsub, pickW, wlook, hc]; exact fun z => hc z.symm
  | ch c => cases b with
    | mk p =>
      by_cases hc : c = 97
      · subst hc; simp [subS, gsub, pickW, wlook]
      · simp [subS, gsub, pickW, wlook, hc]
    | ch d => intro z; simp [subS] at z; exact h (by rw [z])
theorem wfL_ne : ∀ (a b : List El), a.length = b.length → a ≠ b → a.flatMap (subS (gsub (wlook (wfL a b)))) ≠ b.flatMap (subS (gsub (wlook (wfL a b))))
  | [], [], _, h => absurd rfl h
  | [], _ :: _, hl, _ => by simp at hl
  | _ :: _, [], hl, _ => by simp at hl
  | x :: a, y :: b, hl, h => by
    by_cases e : x = y
    · subst e
      rw [wfL, if_pos rfl, List.flatMap_cons, List.flatMap_cons]
      intro z
      exact wfL_ne a b (by simpa using hl) (fun q => h (by rw [q])) (List.append_cancel_left z)
    · rw [wfL, if_neg e, List.flatMap_cons, List.flatMap_cons]
      obtain ⟨c, ec⟩ := sub1 (pick1 x y) x
      obtain ⟨d, ed⟩ := sub1 (pick1 x y) y
      have hne := pick_ne e
      rw [ec, ed] at hne
      rw [ec, ed]
      intro z
      simp at z
      exact hne (by rw [z.1])
theorem wordsFor_ne {a b : List El} (h : a ≠ b) : a.flatMap (subS (gsub (wlook (wordsFor a b)))) ≠ b.flatMap (subS (gsub (wlook (wordsFor a b)))) := by
  by_cases hl : a.length = b.length
  · unfold wordsFor
    rw [if_pos hl]
    exact wfL_ne a b hl h
  · intro z
    have := congrArg List.length z
    rw [flat_len (wordsFor1 a b), flat_len (wordsFor1 a b)] at this
    exact hl this
/-! what the law needs -/
theorem InR.weak {W W' : List Nat → Prop} {M M' : Nat → Prop} (hW : ∀ s, W s → W' s) (hM : ∀ n, M n → M' n) : ∀ n : Nat, ∀ (t : List Pt) (ρ : As), hgs t ≤ n → InR W M t ρ → InR W' M' t ρ := by
  intro n
  induction n with
  | zero =>
    intro t ρ h _
    cases t with
    | nil => rw [InR]; trivial
    | cons p t => rw [hgs] at h; omega
  | succ n ih =>
    intro t ρ h hi
    refine InR.mk fun p hp ht => ?_
    obtain ⟨v, e, hv⟩ := hi.mem p hp ht
    have hh := hgs_mem hp
    refine ⟨v, e, ?_⟩
    cases p with
    | text s => simp [isText] at ht
    | field m => rw [InV] at hv ⊢; obtain ⟨s, e, k⟩ := hv; exact ⟨s, e, hW s k⟩
    | opt m ps => rw [InV] at hv ⊢; exact hv.imp id fun ⟨q, e, k⟩ => ⟨q, e, ih ps _ (by simp only [hgP] at hh; omega) k⟩
    | rep m s ps =>
      rw [InV] at hv ⊢
      obtain ⟨rs, e, k1, k⟩ := hv
      exact ⟨rs, e, hM _ k1, fun x hx => by obtain ⟨q, e, k⟩ := k x hx; exact ⟨q, e, ih ps _ (by simp only [hgP] at hh; omega) k⟩⟩
theorem sh_gen (n : Nat) (t : List Pt) (r : Rec) (h : hgs t ≤ n) (hs : SmG A1 t r) : GenR t r := sm_gen (fun w hw => by simp [A1] at hw; subst hw; decide) n t r h hs
theorem sh_in (n d : Nat) (t : List Pt) (r : Rec) (h : hgs t ≤ n) (hg : goodPs d t = true) (hs : SmG A1 t r) : InR W1 M2 t (look (.obj r)) := InR.weak (fun s hs => by simpa [A1, W1] using hs) (fun _ h => h) n t _ h (sm_in n d t r h hg hs)
structure DT (d k : Nat) (t o : List Pt) : Prop where
  gt : goodPs d t = true
  go : goodPs d o = true
  al : Alk k t o
  tt : Alk k t t
  oo : Alk k o o
theorem DT.symm {d k : Nat} {t o : List Pt} (h : DT d k t o) : DT d k o t := ⟨h.go, h.gt, h.al.symm, h.oo, h.tt⟩
theorem DT.self {d k : Nat} {t o : List Pt} (h : DT d k t o) : DT d k t t := ⟨h.gt, h.gt, h.tt, h.tt, h.tt⟩
section
variable {d k : Nat} {t o : List Pt}
theorem DT.shape (h : DT d k t o) {x : Nat × Rec} (hx : x ∈ shapesC t) : FitR t x.2 ∧ FitR o x.2 ∧ InR W1 M2 t (look (.obj x.2)) ∧ x.1 = rvR x.2 := by
  obtain ⟨h1, h2⟩ := (shapesC_mem t x).mp hx
  have hf := gen_fit (hgs t) d t x.2 (Nat.le_refl _) h.gt (sh_gen (hgs t) t x.2 (Nat.le_refl _) h1)
  exact ⟨hf, fit_alk k t o h.al x.2 hf, sh_in (hgs t) d t x.2 (Nat.le_refl _) h.gt h1, h2⟩
theorem DT.nn (h : DT d k t o) (hb : bestC t o = none) {r : Rec} (hr : FitR t r) : fillPs t r = fillPs o r := by
  have hall := (best_none (shapesC t) none hb).2
  have hrow : ∀ ρ, InR W1 M2 t ρ → rowPs t ρ [] = rowPs o ρ [] := fun ρ hρ => by
    have hs := sh_word (hgs t) t ρ [] (Nat.le_refl _) hρ
    have := hall (rvR (wordPs allA t ρ []), wordPs allA t ρ []) ((shapesC_mem t _).mpr ⟨hs, rfl⟩)
    unfold rowT at this
    rwa [word_row allA k t t h.tt ρ [] [] hρ.mono, word_row allA k t o h.al ρ [] [] hρ.mono] at this
  have fr : Free ([] : List Sg) [] := fun e he => by simp at he
  have key := small k t o h.al [] [] [] [] [] fr fr fr fr (fun ρ hρ => by simpa using hrow ρ hρ) (look (.obj r)) (fit_in (hgs t) t r (Nat.le_refl _) hr.2)
  refine fill_of_rows (fit_in (hgs t) t r (Nat.le_refl _) hr.2) (fit_in (hgs o) o r (Nat.le_refl _) (fit_alk k t o h.al r hr).2) ?_
  unfold rowT
  simpa using key
theorem wl_ok {a b : List El} {p : List Sg} {w : List Nat} (e : wlook (wordsFor a b) p = some w) : overB w LET 1 8 = true ∧ w.length = 1 := by
  rcases wlook1 (wordsFor1 a b) e with rfl | rfl <;> exact ⟨by decide, rfl⟩
theorem DT.sm (h : DT d k t o) {y : Nat × Rec} (hb : bestC t o = some y) : GenR t y.2 ∧ rvR y.2 = y.1 ∧ fillPs t y.2 ≠ fillPs o y.2 ∧ (∀ r, FitR t r → InR W1L M2 t (look (.obj r)) → fillPs t r ≠ fillPs o r → y.1 ≤ rvR r)
    ∧ ∃ x ∈ shapesC t, rowT t x.2 ≠ rowT o x.2 ∧ y.1 = x.1 := by
  obtain ⟨h1, h2, _⟩ := best_some (shapesC t) none y hb
  rcases h1 with h1 | ⟨x, hx, hd, rfl⟩
  · cases h1
  obtain ⟨f1, f2, f3, f4⟩ := h.shape hx
  have hW : InR W1 MA t (look (.obj x.2)) := InR.weak (fun _ h => h) (fun _ _ => trivial) (hgs t) t _ (Nat.le_refl _) f3
  have hL : InR W1L MA t (look (.obj x.2)) := InR.weak (fun s h => by have h : s = [97] := h; subst h; rfl) (fun _ _ => trivial) (hgs t) t _ (Nat.le_refl _) f3
  refine ⟨word_gen _ (fun p w e => (wl_ok e).1) (hgs t) t x.2 [] (Nat.le_refl _) f1.2, ?_, ?_, fun r hr hi hne => ?_, x, hx, hd, rfl⟩
  · show rvR (wordPs _ t (look (.obj x.2)) []) = x.1
    rw [word_size _ (fun p w e => (wl_ok e).2) (hgs t) d t x.2 [] (Nat.le_refl _) h.gt f1 hL, f4]
  · show fillPs t (wordPs _ t (look (.obj x.2)) []) ≠ fillPs o (wordPs _ t (look (.obj x.2)) [])
    rw [word_fill _ k t t h.tt _ [] hW, word_fill _ k t o h.al _ [] hW]
    exact wordsFor_ne hd
  · have hiA : InR WA MA t (look (.obj r)) := fit_in (hgs t) t r (Nat.le_refl _) hr.2
    have hiL : InR W1L MA t (look (.obj r)) := InR.weak (fun _ h => h) (fun _ _ => trivial) (hgs t) t _ (Nat.le_refl _) hi
    have hrd : rowT t r ≠ rowT o r := fun z => hne (fill_of_rows hiA (in_alk k t o h.al _ hiA) z)
    have hs := sh_word (hgs t) t (look (.obj r)) [] (Nat.le_refl _) hi
    have hm := h2 (rvR (wordPs allA t (look (.obj r)) []), wordPs allA t (look (.obj r)) []) ((shapesC_mem t _).mpr ⟨hs, rfl⟩) (by
      unfold rowT
      rw [word_row allA k t t h.tt _ [] [] hiA, word_row allA k t o h.al _ [] [] hiA]
      exact hrd)
    rwa [word_size allA (fun p w e => by cases e; rfl) (hgs t) d t r [] (Nat.le_refl _) h.gt hr hiL] at hm
theorem DT.le (h : DT d k t o) {y : Nat × Rec} (hb : bestC t o = some y) : ∃ z, bestC o t = some z ∧ z.1 ≤ y.1 := by
  obtain ⟨_, _, _, _, x, hx, hd, e⟩ := h.sm hb
  obtain ⟨f1, f2, f3, f4⟩ := h.shape hx
  have g3 := in_alk k t o h.al _ f3
  have hs := sh_word (hgs o) o (look (.obj x.2)) [] (Nat.le_refl _) g3
  have hm : (rvR (wordPs allA o (look (.obj x.2)) []), wordPs allA o (look (.obj x.2)) []) ∈ shapesC o := (shapesC_mem o _).mpr ⟨hs, rfl⟩
  have hd' : rowT o (wordPs allA o (look (.obj x.2)) []) ≠ rowT t (wordPs allA o (look (.obj x.2)) []) := by
    unfold rowT
    rw [word_row allA k o o h.oo _ [] [] g3.mono, word_row allA k o t h.al.symm _ [] [] g3.mono]
    exact fun z => hd z.symm
  have hL : InR W1L MA o (look (.obj x.2)) := InR.weak (fun s h => by have h : s = [97] := h; subst h; rfl) (fun _ _ => trivial) (hgs o) o _ (Nat.le_refl _) g3
  have sz := word_size allA (fun p w e => by cases e; rfl) (hgs o) d o x.2 [] (Nat.le_refl _) h.go f2 hL
  cases hb2 : bestC o t with
  | none => exact absurd ((best_none (shapesC o) none hb2).2 _ hm) hd'
  | some z =>
    have := (best_some (shapesC o) none z hb2).2.1 _ hm hd'
    refine ⟨z, rfl, ?_⟩
    rw [e, f4, ← sz]
    exact this
theorem DT.both (h : DT d k t o) : (bestC t o = none ∧ bestC o t = none) ∨ ∃ y z, bestC t o = some y ∧ bestC o t = some z ∧ y.1 = z.1 := by
  cases hb : bestC t o with
  | none =>
    cases hc : bestC o t with
    | none => exact .inl ⟨rfl, rfl⟩
    | some z =>
      obtain ⟨y, e, _⟩ := h.symm.le hc
      rw [hb] at e; cases e
  | some y =>
    obtain ⟨z, e, h1⟩ := h.le hb
    obtain ⟨y', e', h2⟩ := h.symm.le e
    rw [hb] at e'; cases e'
    exact .inr ⟨y, z, rfl, e, by omega⟩
theorem best_self (t : List Pt) : bestC t t = none := by
  unfold bestC
  have : ∀ (L : List (Nat × Rec)), L.foldl (stepB t t) none = none := fun L => by
    induction L with
    | nil => rfl
    | cons x L ih =>
      rw [List.foldl_cons]
      have : stepB t t none x = none := by unfold stepB; rw [if_neg (fun z => z.2 rfl)]
      rw [this, ih]
  exact this _
end
/-! ### the law's many small records -/
def nown : Sl → Bool
  | .own _ => false
  | _ => true
def encO (r : Rec) : D := .dic 0 (encR r)
theorem merge_nd : ∀ (q a : Rec), (a.map (·.1) ++ q.map (·.1)).Nodup → mergeD (encR a) (encR q) = encR (a ++ q)
  | [], a, _ => by simp [mergeD, encR]
  | (k, v) :: q, a, nd => by
    have hn : k ∉ a.map (·.1) := fun z => by
      rw [List.nodup_append] at nd
      exact nd.2.2 k z k List.mem_cons_self rfl
    rw [encR]
    show mergeD (dput (encR a) (.str k) (encV v)) (encR q) = _
    rw [dput_new hn, merge_nd q (a ++ [(k, v)]) (by simpa using nd)]
    simp
theorem pairs_enc : ∀ q : Rec, asPairs ((encR q).map fun kv => D.tup [kv.1, kv.2]) = some (encR q)
  | [] => rfl
  | (k, v) :: q => by
    rw [encR, List.map_cons, asPairs]
    simp [asKey, pairs_enc q]
theorem pairs_app : ∀ (a b : List D) (x y : List (D × D)), asPairs a = some x → asPairs b = some y → asPairs (a ++ b) = some (x ++ y)
  | [], b, x, y, h, k => by simp only [asPairs, Option.some.injEq] at h; subst h; exact k
  | d :: a, b, x, y, h, k => by
    unfold asPairs at h
    split at h
    · rename_i e; cases e
    · rename_i k0 v0 r e
      cases e
      split at h
      · rename_i hk
        obtain ⟨x', e1, rfl⟩ := Option.map_eq_some_iff.mp h
        rw [List.cons_append, asPairs, if_pos hk, pairs_app a b x' y e1 k]
        rfl
      · cases h
    · cases h
section
variable {c0 : Nat → List Sl → Res} {fuel : Nat} {Wd : List (List Nat)} {most : Nat}
def RecsC (c0 : Nat → List Sl → Res) (fuel : Nat) (Wd : List (List Nat)) (most : Nat) (ps : List Pt) : Prop := ∃ L : List Rec, c0 fuel [.val (.tup (encs ps)), .val (.lst (Wd.map .str)), .val (.int most)] = .ret (.lst (L.map encO)) [] ∧ L.length ≤ most ∧ ∀ r ∈ L, SmG Wd ps r
theorem take_sl (l : List D) (k : Nat) : dSl (.lst l) none (some (k : Int)) = some (.lst (l.take k)) := by
  show some (D.lst (cutD l none (some (k : Int)))) = _
  unfold cutD
  rw [HT.sIx_none, HT.sIx_nat, List.drop_zero, Nat.sub_zero]
  by_cases h : k ≤ l.length
  · rw [Nat.min_eq_left h]
  · rw [Nat.min_eq_right (by omega), List.take_of_length_le (Nat.le_refl _), List.take_of_length_le (by omega)]
theorem recs_pair {x0 x1 x2 x3 x4 x6 x7 : Sl} {L : List Rec} : ∀ (M : List Rec) (acc : List D) (x9 : Sl), nown x9 = true → acc.length + M.length * L.length ≤ Ln → ∃ y9, nown y9 = true ∧ forD (gSet 9) (sExt 5 (ofO (oLc [11] (iSeq (vGet 8)) (gSet 11) (bYes) (mkLst (aCons (vGet 9) (aCons (vGet 11) (aNil))))))) (M.map encO) [x0, x1, x2, x3, x4, .own (.l acc), x6, x7, .val (.lst (L.map encO)), x9, .emp, .emp]
    = .nx [x0, x1, x2, x3, x4, .own (.l (acc ++ (M.flatMap fun x => L.map fun y => Rv.recs [.obj x, .obj y]).map encV)), x6, x7, .val (.lst (L.map encO)), y9, .emp, .emp]
  | [], acc, x9, h9, _ => ⟨x9, h9, by simp [forD]⟩
  | x :: M, acc, x9, h9, hl => by
    rw [List.length_cons, Nat.succ_mul] at hl
    have e2 : lcD [11] (gSet 11) bYes (mkLst (aCons (vGet 9) (aCons (vGet 11) (aNil)))) (L.map encO) [x0, x1, x2, x3, x4, .own (.l acc), x6, x7, .val (.lst (L.map encO)), .val (encO x), .emp, .emp] = .ok (L.map fun y => encV (.recs [.obj x, .obj y]), [x0, x1, x2, x3, x4, .own (.l acc), x6, x7, .val (.lst (L.map encO)), .val (encO x), .emp, .emp]) := by
      refine lcD_map encO _ rfl L fun y _ => ⟨[x0, x1, x2, x3, x4, .own (.l acc), x6, x7, .val (.lst (L.map encO)), .val (encO x), .emp, .val (encO y)], [x0, x1, x2, x3, x4, .own (.l acc), x6, x7, .val (.lst (L.map encO)), .val (encO x), .emp, .val (encO y)], rfl, ?_, rfl⟩
      have h2 : ([encO x, encO y] : List D).length ≤ Ln := by show 2 ≤ Ln; decide
      simp only [mkLst, aCons, aNil, vGet, List.getElem?_cons_succ, List.getElem?_cons_zero, R.bind_ok, h2, if_true]
      rfl
    have b1 : sExt 5 (ofO (oLc [11] (iSeq (vGet 8)) (gSet 11) (bYes) (mkLst (aCons (vGet 9) (aCons (vGet 11) (aNil)))))) [x0, x1, x2, x3, x4, .own (.l acc), x6, x7, .val (.lst (L.map encO)), .val (encO x), .emp, .emp] = .nx [x0, x1, x2, x3, x4, .own (.l (acc ++ L.map fun y => encV (.recs [.obj x, .obj y]))), x6, x7, .val (.lst (L.map encO)), .val (encO x), .emp, .emp] := by
      refine (sExt_ok (xs := acc) (ys := L.map fun y => encV (.recs [.obj x, .obj y])) rfl ?_ (by rw [List.length_map]; omega)).trans rfl
      simp only [ofO, oLc, iSeq, vGet, List.getElem?_cons_succ, List.getElem?_cons_zero, R.bind_ok, e2, dOf, lft_some]
    obtain ⟨y9, hy9, ih⟩ := recs_pair (x0 := x0) (x1 := x1) (x2 := x2) (x3 := x3) (x4 := x4) (x6 := x6) (x7 := x7) (L := L) M (acc ++ L.map fun y => encV (.recs [.obj x, .obj y])) (.val (encO x)) rfl (by rw [List.length_append, List.length_map]; omega)
    refine ⟨y9, hy9, ?_⟩
    rw [List.map_cons, forD]
    simp only [gSet_app, List.set_cons_succ, List.set_cons_zero, b1, loopK]
    rw [ih, List.flatMap_cons, List.map_append, List.map_map, List.append_assoc]
    rfl
def valBlock (c0 : Nat → List Sl → Res) (fuel : Nat) : DS → Out := sIf (toB (fBin dEq (fBin dGetI (vGet 4) (vC (.int 0))) (vC (.str [102, 105, 101, 108, 100])))) (sSetO 5 (oListC (vGet 1))) (B_law_records_e1 c0 fuel)
theorem recs_vals {p : Pt} (ht : isText p = false) (hc : isField p = false → RecsC c0 fuel Wd most (inn p)) (hW : Wd.length ≤ 10) (x0 x3 x6 x7 x8 x9 : Sl) (h9 : nown x9 = true) :
    ∃ (V : List Rv) (y8 y9 : Sl), nown y9 = true ∧ valBlock c0 fuel [x0, .val (.lst (Wd.map .str)), .val (.int most), x3, .val (enc p), .own (.l []), x6, x7, x8, x9, .emp, .emp] = .nx [x0, .val (.lst (Wd.map .str)), .val (.int most), x3, .val (enc p), .own (.l (V.map encV)), x6, x7, y8, y9, .emp, .emp] ∧ (∀ v ∈ V, SmV Wd p v) ∧ V.length ≤ 200 := by
  cases p with
  | text s => simp [isText] at ht
  | field n =>
    refine ⟨Wd.map .word, x8, x9, h9, ?_, fun v hv => ?_, by rw [List.length_map]; omega⟩
    · unfold valBlock
      rw [sIf_t (test_kind 4 (p := .field n) rfl _)]
      simp only [sSetO, oListC, vGet, List.getElem?_cons_succ, List.getElem?_cons_zero, R.bind_ok, toOut_ok, List.set_cons_succ, List.set_cons_zero, List.map_map]
      have : (encV ∘ Rv.word) = D.str := funext fun w => by simp [encV]
      rw [this]
    · obtain ⟨w, hw, rfl⟩ := List.mem_map.mp hv
      rw [SmV]; exact ⟨w, hw, rfl⟩
  | opt n ps =>
    obtain ⟨L, ec, hl, hL⟩ := hc rfl
    simp only [inn] at ec hL
    have g2 : dGetI (enc (.opt n ps)) (.int 2) = some (.tup (encs ps)) := rfl
    have sl := take_sl (L.map encO) 20
    have h1 : ([.non] : List D).length ≤ Ln := by show 1 ≤ Ln; decide
    refine ⟨.none :: (L.take 20).map .obj, x8, x9, h9, ?_, fun v hv => ?_, by simp; omega⟩
    · unfold valBlock
      rw [sIf_f (test_kind 4 (p := .opt n ps) rfl _), B_law_records_e1, sIf_t (test_kind 4 (p := .opt n ps) rfl _)]
      have h2 : ([.non] : List D).length + ((L.map encO).take 20).length ≤ Ln := by rw [List.length_take]; unfold Ln; simp; omega
      have e20 : ((20 : Nat) : Int) = 20 := rfl
      rw [e20] at sl
      simp only [sSetO, oAddL, mkLst, aCons, aNil, vC, vGet, fSl, fCallF, aaVal, aaNil, fBin, List.getElem?_cons_succ, List.getElem?_cons_zero, R.bind_ok, h1, if_true, g2, lft_some, asOf, idxOf, Option.map_some, ec, List.nodup_nil, putCs, oNone, oSome, sl, h2, toOut_ok, List.set_cons_succ, List.set_cons_zero]
      have : (encV ∘ Rv.obj) = encO := funext fun w => by simp [encV, encO]
      rw [List.map_cons, List.map_map, this, List.map_take]
      rfl
    · rw [SmV]
      rcases List.mem_cons.mp hv with rfl | hv
      · exact .inl rfl
      · obtain ⟨r, hr, rfl⟩ := List.mem_map.mp hv
        exact .inr ⟨r, rfl, hL r (List.mem_of_mem_take hr)⟩
  | rep n s ps =>
    obtain ⟨L, ec, hl, hL⟩ := hc rfl
    simp only [inn] at ec hL
    have g3 : dGetI (enc (.rep n s ps)) (.int 3) = some (.tup (encs ps)) := rfl
    have sl := take_sl (L.map encO) 12
    have e12 : ((12 : Nat) : Int) = 12 := rfl
    rw [e12, ← List.map_take] at sl
    have h0 : ([] : List D).length ≤ Ln := by show 0 ≤ Ln; decide
    have h1 : ([.lst []] : List D).length ≤ Ln := by show 1 ≤ Ln; decide
    have hM : (L.take 12).length ≤ 12 := by rw [List.length_take]; omega
    generalize hLM : L.take 12 = M at sl hM
    have hMM := Nat.mul_le_mul hM hM
    have s1 : sAsg (fSl (fCallF (c0 fuel) (aaVal (fBin dGetI (vGet 4) (vC (.int 3))) (aaVal (vGet 1) (aaVal (vGet 2) (aaNil))))) oNone (oSome (vC (.int 12)))) (gSet 8) [x0, .val (.lst (Wd.map .str)), .val (.int most), x3, .val (enc (.rep n s ps)), .own (.l []), x6, x7, x8, x9, .emp, .emp] = .nx [x0, .val (.lst (Wd.map .str)), .val (.int most), x3, .val (enc (.rep n s ps)), .own (.l []), x6, x7, .val (.lst (M.map encO)), x9, .emp, .emp] := by
      simp only [sAsg, fSl, fCallF, aaVal, aaNil, fBin, vGet, vC, List.getElem?_cons_succ, List.getElem?_cons_zero, R.bind_ok, g3, lft_some, asOf, idxOf, Option.map_some, ec, List.nodup_nil, if_true, putCs, oNone, oSome, sl, toOut_ok, gSet_app, List.set_cons_succ, List.set_cons_zero]
    have e2 : lcD [9] (gSet 9) bYes (mkLst (aCons (vGet 9) (aNil))) (M.map encO) [x0, .val (.lst (Wd.map .str)), .val (.int most), x3, .val (enc (.rep n s ps)), .own (.l []), x6, x7, .val (.lst (M.map encO)), x9, .emp, .emp] = .ok (M.map fun x => encV (.recs [.obj x]), [x0, .val (.lst (Wd.map .str)), .val (.int most), x3, .val (enc (.rep n s ps)), .own (.l []), x6, x7, .val (.lst (M.map encO)), x9, .emp, .emp]) := by
      refine lcD_map encO _ (by cases x9 <;> first | rfl | simp [nown] at h9) M fun y _ => ⟨[x0, .val (.lst (Wd.map .str)), .val (.int most), x3, .val (enc (.rep n s ps)), .own (.l []), x6, x7, .val (.lst (M.map encO)), .val (encO y), .emp, .emp], [x0, .val (.lst (Wd.map .str)), .val (.int most), x3, .val (enc (.rep n s ps)), .own (.l []), x6, x7, .val (.lst (M.map encO)), .val (encO y), .emp, .emp], rfl, ?_, rfl⟩
      have h2 : ([encO y] : List D).length ≤ Ln := by show 1 ≤ Ln; decide
      simp only [mkLst, aCons, aNil, vGet, List.getElem?_cons_succ, List.getElem?_cons_zero, R.bind_ok, h2, if_true]
      rfl
    have s2 : sSetO 5 (oAddL (mkLst (aCons (mkLst (aNil)) (aNil))) (ofO (oLc [9] (iSeq (vGet 8)) (gSet 9) (bYes) (mkLst (aCons (vGet 9) (aNil)))))) [x0, .val (.lst (Wd.map .str)), .val (.int most), x3, .val (enc (.rep n s ps)), .own (.l []), x6, x7, .val (.lst (M.map encO)), x9, .emp, .emp] = .nx [x0, .val (.lst (Wd.map .str)), .val (.int most), x3, .val (enc (.rep n s ps)), .own (.l ((.recs [] :: M.map fun x => Rv.recs [.obj x]).map encV)), x6, x7, .val (.lst (M.map encO)), x9, .emp, .emp] := by
      have h3 : ([.lst []] : List D).length + (M.map fun x => encV (.recs [.obj x])).length ≤ Ln := by rw [List.length_map]; unfold Ln; simp; omega
      simp only [sSetO, oAddL, mkLst, aCons, aNil, R.bind_ok, h0, h1, if_true, ofO, oLc, iSeq, vGet, List.getElem?_cons_succ, List.getElem?_cons_zero, e2, dOf, lft_some, h3, toOut_ok, List.set_cons_succ, List.set_cons_zero]
      rw [List.map_cons, List.map_map]
      simp [encV, encVs]
      try rfl
    obtain ⟨y9, hy9, el⟩ := recs_pair (x0 := x0) (x1 := .val (.lst (Wd.map .str))) (x2 := .val (.int most)) (x3 := x3) (x4 := .val (enc (.rep n s ps))) (x6 := x6) (x7 := x7) (L := M) M ((.recs [] :: M.map fun x => Rv.recs [.obj x]).map encV) x9 h9 (by simp only [List.length_map, List.length_cons]; unfold Ln; omega)
    refine ⟨(.recs [] :: M.map fun x => Rv.recs [.obj x]) ++ M.flatMap fun x => M.map fun y => Rv.recs [.obj x, .obj y], .val (.lst (M.map encO)), y9, hy9, ?_, fun v hv => ?_, ?_⟩
    · unfold valBlock
      rw [sIf_f (test_kind 4 (p := .rep n s ps) rfl _), B_law_records_e1, sIf_f (test_kind 4 (p := .rep n s ps) rfl _), sIf_t (test_kind 4 (p := .rep n s ps) rfl _), B_law_records_i0, sSeq_nx s1, sSeq_nx s2]
      unfold sFor
      simp only [iSeq, vGet, List.getElem?_cons_succ, List.getElem?_cons_zero, R.bind_ok, toOut_ok]
      rw [el, List.map_append]
    · have hin : ∀ r ∈ M, SmG Wd ps r := fun r hr => hL r (List.mem_of_mem_take (hLM ▸ hr))
      rw [SmV]
      rcases List.mem_append.mp hv with hv | hv
      · rcases List.mem_cons.mp hv with rfl | hv
        · exact ⟨[], rfl, by simp, by simp⟩
        · obtain ⟨r, hr, rfl⟩ := List.mem_map.mp hv
          exact ⟨_, rfl, by simp, fun y hy => by rw [List.mem_singleton] at hy; exact ⟨_, hy, hin r hr⟩⟩
      · obtain ⟨r, hr, hv⟩ := List.mem_flatMap.mp hv
        obtain ⟨r', hr', rfl⟩ := List.mem_map.mp hv
        refine ⟨_, rfl, by simp, fun y hy => ?_⟩
        simp only [List.mem_cons, List.not_mem_nil, or_false] at hy
        rcases hy with rfl | rfl
        · exact ⟨_, rfl, hin r hr⟩
        · exact ⟨_, rfl, hin r' hr'⟩
    · have : ∀ A B : List Rec, (A.flatMap fun x => B.map fun y => Rv.recs [.obj x, .obj y]).length = A.length * B.length := fun A B => by
        induction A with
        | nil => simp
        | cons x A ih => rw [List.flatMap_cons, List.length_append, ih, List.length_map, List.length_cons, Nat.succ_mul]; omega
      rw [List.length_append, this, List.length_cons, List.length_map]
      omega
theorem recs_grow {x0 x1 x2 x3 x8 x9 : Sl} {p : Pt} {V : List Rv} (hok : okS (nm p) = true) : ∀ (M : List Rec) (acc : List D) (x5 x7 : Sl), (x5 = .own (.l (V.map encV)) ∨ x5 = .val (.lst (V.map encV))) → (∀ r ∈ M, (r.map (·.1) ++ [nm p]).Nodup ∧ (∀ n ∈ r.map (·.1), okS n = true) ∧ r.length < 1000) → acc.length + M.length * V.length ≤ Ln →
    ∃ y5 y7, forD (gSet 7) (B_law_records_f2 c0 fuel) (M.map encO) [x0, x1, x2, x3, .val (enc p), x5, .own (.l acc), x7, x8, x9, .emp, .emp] = .nx [x0, x1, x2, x3, .val (enc p), y5, .own (.l (acc ++ (M.flatMap fun r => V.map fun v => r ++ [(nm p, v)]).map encO)), y7, x8, x9, .emp, .emp]
  | [], acc, x5, x7, _, _, _ => ⟨x5, x7, by simp [forD]⟩
  | r :: M, acc, x5, x7, h5, hk, hl => by
    rw [List.length_cons, Nat.succ_mul] at hl
    obtain ⟨nd, ok, hlen⟩ := hk r List.mem_cons_self
    have g5 : vGetF 5 [x0, x1, x2, x3, .val (enc p), x5, .own (.l acc), .val (encO r), x8, x9, .emp, .emp] = .ok (.lst (V.map encV), [x0, x1, x2, x3, .val (enc p), .val (.lst (V.map encV)), .own (.l acc), .val (encO r), x8, x9, .emp, .emp]) := by
      rcases h5 with rfl | rfl <;> simp only [vGetF, List.getElem?_cons_succ, List.getElem?_cons_zero, dOf, lft_some, R.bind_ok, List.set_cons_succ, List.set_cons_zero]
    have okk : (encR r).all (fun kv => okKk kv.1) = true := by
      rw [encR_map, List.all_map, List.all_eq_true]
      exact fun kv hkv => ok kv.1 (List.mem_map_of_mem hkv)
    have e2 : lcD [10] (gSet 10) bYes (ofO (oDictP (fBin dAdd (fListItems (vGet 7)) (mkLst (aCons (mkTup (aCons (fBin dGetI (vGet 4) (vC (.int 1))) (aCons (vGet 10) (aNil)))) (aNil)))))) (V.map encV) [x0, x1, x2, x3, .val (enc p), .val (.lst (V.map encV)), .own (.l acc), .val (encO r), x8, x9, .emp, .emp] = .ok (V.map fun v => encO (r ++ [(nm p, v)]), [x0, x1, x2, x3, .val (enc p), .val (.lst (V.map encV)), .own (.l acc), .val (encO r), x8, x9, .emp, .emp]) := by
      refine lcD_map encV _ rfl V fun v _ => ⟨[x0, x1, x2, x3, .val (enc p), .val (.lst (V.map encV)), .own (.l acc), .val (encO r), x8, x9, .val (encV v), .emp], [x0, x1, x2, x3, .val (enc p), .val (.lst (V.map encV)), .own (.l acc), .val (encO r), x8, x9, .val (encV v), .emp], rfl, ?_, rfl⟩
      have gn := get_nm 4 (ds := [x0, x1, x2, x3, .val (enc p), .val (.lst (V.map encV)), .own (.l acc), .val (encO r), x8, x9, .val (encV v), .emp]) (p := p) rfl
      have tp := mk2 _ (vGet 10) _ _ [x0, x1, x2, x3, .val (enc p), .val (.lst (V.map encV)), .own (.l acc), .val (encO r), x8, x9, .val (encV v), .emp] _ (encV v) gn (by simp only [vGet, List.getElem?_cons_succ, List.getElem?_cons_zero])
      have ml : mkLst (aCons (mkTup (aCons (fBin dGetI (vGet 4) (vC (.int 1))) (aCons (vGet 10) (aNil)))) (aNil)) [x0, x1, x2, x3, .val (enc p), .val (.lst (V.map encV)), .own (.l acc), .val (encO r), x8, x9, .val (encV v), .emp] = .ok (.lst [.tup [.str (nm p), encV v]], [x0, x1, x2, x3, .val (enc p), .val (.lst (V.map encV)), .own (.l acc), .val (encO r), x8, x9, .val (encV v), .emp]) := by
        have h1 : ([.tup [.str (nm p), encV v]] : List D).length ≤ Ln := by show 1 ≤ Ln; decide
        rw [mkLst, aCons, tp]
        simp only [R.bind_ok, aNil, h1, if_true]
      have li : fListItems (vGet 7) [x0, x1, x2, x3, .val (enc p), .val (.lst (V.map encV)), .own (.l acc), .val (encO r), x8, x9, .val (encV v), .emp] = .ok (.lst ((encR r).map fun kv => .tup [kv.1, kv.2]), [x0, x1, x2, x3, .val (enc p), .val (.lst (V.map encV)), .own (.l acc), .val (encO r), x8, x9, .val (encV v), .emp]) := by
        simp only [fListItems, vGet, List.getElem?_cons_succ, List.getElem?_cons_zero, R.bind_ok, encO, okk, if_true]
      have ad : dAdd (.lst ((encR r).map fun kv => .tup [kv.1, kv.2])) (.lst [.tup [.str (nm p), encV v]]) = some (.lst (((encR r).map fun kv => .tup [kv.1, kv.2]) ++ [.tup [.str (nm p), encV v]])) := by
        unfold dAdd
        dsimp only
        rw [if_pos (by rw [List.length_map, encR_len]; unfold Ln; simp; omega)]
      have ap := pairs_app _ [.tup [.str (nm p), encV v]] _ [(.str (nm p), encV v)] (pairs_enc r) (by simp [asPairs, asKey])
      have mg : mergeD [] (encR r ++ [(.str (nm p), encV v)]) = encR (r ++ [(nm p, v)]) := by
        have := merge_nd (r ++ [(nm p, v)]) [] (by simpa using nd)
        rw [encR_app] at this
        simpa [encR] using this
      rw [ofO, oDictP, fBin, li]
      simp only [R.bind_ok]
      rw [ml]
      simp only [R.bind_ok, ad, lft_some, ap, mg, dOf, encO]
    have b1 : B_law_records_f2 c0 fuel [x0, x1, x2, x3, .val (enc p), x5, .own (.l acc), .val (encO r), x8, x9, .emp, .emp] = .nx [x0, x1, x2, x3, .val (enc p), .val (.lst (V.map encV)), .own (.l (acc ++ V.map fun v => encO (r ++ [(nm p, v)]))), .val (encO r), x8, x9, .emp, .emp] := by
      have ha : acc.length + (V.map fun v => encO (r ++ [(nm p, v)])).length ≤ Ln := by rw [List.length_map]; omega
      unfold B_law_records_f2 sExt
      simp only [List.getElem?_cons_succ, List.getElem?_cons_zero, ofO, oLc, iSeq, g5, R.bind_ok, e2, dOf, lft_some, toOut_ok, ha, if_true, List.set_cons_succ, List.set_cons_zero]
    obtain ⟨y5, y7, ih⟩ := recs_grow (x0 := x0) (x1 := x1) (x2 := x2) (x3 := x3) (x8 := x8) (x9 := x9) (V := V) hok M (acc ++ V.map fun v => encO (r ++ [(nm p, v)])) (.val (.lst (V.map encV))) (.val (encO r)) (.inr rfl) (fun z hz => hk z (List.mem_cons_of_mem _ hz)) (by rw [List.length_append, List.length_map]; omega)
    refine ⟨y5, y7, ?_⟩
    rw [List.map_cons, forD]
    simp only [gSet_app, List.set_cons_succ, List.set_cons_zero, b1, loopK]
    rw [ih, List.flatMap_cons, List.map_append, List.map_map, List.append_assoc]
    rfl
theorem SmG.app {a b : List Pt} : ∀ {r q : Rec}, SmG Wd a r → SmG Wd b q → SmG Wd (a ++ b) (r ++ q) := by
  induction a with
  | nil => intro r q h k; rw [SmG] at h; subst h; exact k
  | cons p a ih =>
    intro r q h k
    rw [SmG] at h
    rw [List.cons_append, SmG]
    rcases h with ⟨h1, h2⟩ | ⟨h1, v, r', rfl, h2, h3⟩
    · exact .inl ⟨h1, ih h2 k⟩
    · exact .inr ⟨h1, v, r' ++ q, rfl, h2, ih h3 k⟩
theorem SmG.keys : ∀ {ps : List Pt} {r : Rec}, SmG Wd ps r → r.map (·.1) = names ps
  | [], r, h => by rw [SmG] at h; subst h; rfl
  | p :: ps, r, h => by
    rw [SmG] at h
    rw [names_cons]
    rcases h with ⟨h1, h2⟩ | ⟨h1, v, r', rfl, h2, h3⟩
    · rw [if_pos h1]; exact SmG.keys h2
    · rw [if_neg (by simp [h1]), List.map_cons, SmG.keys h3]
theorem recs_loop (hm : most ≤ 300) (hW : Wd.length ≤ 10) (x0 : Sl) : ∀ (ps pre : List Pt), (∀ p ∈ ps, isText p = false → isField p = false → RecsC c0 fuel Wd most (inn p)) → (names (pre ++ ps)).Nodup → (∀ n ∈ names (pre ++ ps), okS n = true) → pre.length + ps.length < 1000 → ∀ (L : List Rec) (x4 x5 x6 x7 x8 x9 : Sl), nown x9 = true → L.length ≤ max 1 most → (∀ r ∈ L, SmG Wd pre r) →
    ∃ (L' : List Rec) (y4 y5 y6 y7 y8 y9 : Sl), nown y9 = true ∧ forD (gSet 4) (B_law_records_f3 c0 fuel) (encs ps) [x0, .val (.lst (Wd.map .str)), .val (.int most), .val (.lst (L.map encO)), x4, x5, x6, x7, x8, x9, .emp, .emp] = .nx [x0, .val (.lst (Wd.map .str)), .val (.int most), .val (.lst (L'.map encO)), y4, y5, y6, y7, y8, y9, .emp, .emp]
      ∧ L'.length ≤ max 1 most ∧ ∀ r ∈ L', SmG Wd (pre ++ ps) r
  | [], pre, _, _, _, _, L, x4, x5, x6, x7, x8, x9, h9, hl, hL => ⟨L, x4, x5, x6, x7, x8, x9, h9, by simp [encs, forD], hl, by simpa using hL⟩
  | p :: ps, pre, h0, nd, hok, hlen, L, x4, x5, x6, x7, x8, x9, h9, hl, hL => by
    have ea : pre ++ p :: ps = (pre ++ [p]) ++ ps := by simp
    rw [List.length_cons] at hlen
    have h00 : ([] : List D).length ≤ Ln := by show 0 ≤ Ln; decide
    have s1 : sSetO 5 (oLst (aNil)) [x0, .val (.lst (Wd.map .str)), .val (.int most), .val (.lst (L.map encO)), .val (enc p), x5, x6, x7, x8, x9, .emp, .emp] = .nx [x0, .val (.lst (Wd.map .str)), .val (.int most), .val (.lst (L.map encO)), .val (enc p), .own (.l []), x6, x7, x8, x9, .emp, .emp] := by
      simp only [sSetO, oLst, aNil, R.bind_ok, h00, if_true, toOut_ok, List.set_cons_succ, List.set_cons_zero]
    cases ht : isText p with
    | true =>
      have kd1 : decide (kind p = [102, 105, 101, 108, 100]) = false := by cases p <;> simp [isText] at ht; rfl
      have kd2 : decide (kind p = [105, 102]) = false := by cases p <;> simp [isText] at ht; rfl
      have kd3 : decide (kind p = [101, 97, 99, 104]) = false := by cases p <;> simp [isText] at ht; rfl
      have k1 := test_kind 4 (ds := [x0, .val (.lst (Wd.map .str)), .val (.int most), .val (.lst (L.map encO)), .val (enc p), .own (.l []), x6, x7, x8, x9, .emp, .emp]) (p := p) rfl [102, 105, 101, 108, 100]
      have k2 := test_kind 4 (ds := [x0, .val (.lst (Wd.map .str)), .val (.int most), .val (.lst (L.map encO)), .val (enc p), .own (.l []), x6, x7, x8, x9, .emp, .emp]) (p := p) rfl [105, 102]
      have k3 := test_kind 4 (ds := [x0, .val (.lst (Wd.map .str)), .val (.int most), .val (.lst (L.map encO)), .val (enc p), .own (.l []), x6, x7, x8, x9, .emp, .emp]) (p := p) rfl [101, 97, 99, 104]
      rw [kd1] at k1; rw [kd2] at k2; rw [kd3] at k3
      have k4 : toB (fBin dNe (fBin dGetI (vGet 4) (vC (.int 0))) (vC (.str [116, 101, 120, 116]))) [x0, .val (.lst (Wd.map .str)), .val (.int most), .val (.lst (L.map encO)), .val (enc p), .own (.l []), x6, x7, x8, x9, .emp, .emp] = .ok (false, [x0, .val (.lst (Wd.map .str)), .val (.int most), .val (.lst (L.map encO)), .val (enc p), .own (.l []), x6, x7, x8, x9, .emp, .emp]) := by
        simp only [toB, fBin, vGet, vC, List.getElem?_cons_succ, List.getElem?_cons_zero, R.bind_ok, enc_0, lft_some, ne_str, kind_text, ht]
        rfl
      obtain ⟨L', y4, y5, y6, y7, y8, y9, hy9, e, hl', hL'⟩ := recs_loop hm hW x0 ps (pre ++ [p]) (fun q hq => h0 q (List.mem_cons_of_mem _ hq)) (by rw [← ea]; exact nd) (by rw [← ea]; exact hok) (by simp; omega) L (.val (enc p)) (.own (.l [])) x6 x7 x8 x9 h9 hl (fun r hr => by
        have := (hL r hr).app (b := [p]) (q := []) (by rw [SmG, SmG]; exact .inl ⟨ht, rfl⟩)
        simpa using this)
      refine ⟨L', y4, y5, y6, y7, y8, y9, hy9, ?_, hl', by rw [ea]; exact hL'⟩
      have b1 : B_law_records_f3 c0 fuel [x0, .val (.lst (Wd.map .str)), .val (.int most), .val (.lst (L.map encO)), .val (enc p), x5, x6, x7, x8, x9, .emp, .emp] = .nx [x0, .val (.lst (Wd.map .str)), .val (.int most), .val (.lst (L.map encO)), .val (enc p), .own (.l []), x6, x7, x8, x9, .emp, .emp] := by
        rw [B_law_records_f3, sSeq_nx s1, sSeq_nx (ds' := [x0, .val (.lst (Wd.map .str)), .val (.int most), .val (.lst (L.map encO)), .val (enc p), .own (.l []), x6, x7, x8, x9, .emp, .emp]) (by rw [sIf_f k1, B_law_records_e1, sIf_f k2, sIf_f k3]; rfl), sIf_f k4]
        rfl
      rw [encs, forD]
      simp only [gSet_app, List.set_cons_succ, List.set_cons_zero, b1, loopK]
      exact e
    | false =>
      obtain ⟨V, z8, z9, hz9, ev, hV, hVl⟩ := recs_vals (c0 := c0) (fuel := fuel) (Wd := Wd) (most := most) ht (h0 p List.mem_cons_self ht) hW x0 (.val (.lst (L.map encO))) x6 x7 x8 x9 h9
      have k4 : toB (fBin dNe (fBin dGetI (vGet 4) (vC (.int 0))) (vC (.str [116, 101, 120, 116]))) [x0, .val (.lst (Wd.map .str)), .val (.int most), .val (.lst (L.map encO)), .val (enc p), .own (.l (V.map encV)), x6, x7, z8, z9, .emp, .emp] = .ok (true, [x0, .val (.lst (Wd.map .str)), .val (.int most), .val (.lst (L.map encO)), .val (enc p), .own (.l (V.map encV)), x6, x7, z8, z9, .emp, .emp]) := by
        simp only [toB, fBin, vGet, vC, List.getElem?_cons_succ, List.getElem?_cons_zero, R.bind_ok, enc_0, lft_some, ne_str, kind_text, ht]
        rfl
      have nd1 : (names pre ++ [nm p]).Nodup := by
        rw [ea, names_app, names_app, names_cons, if_neg (by simp [ht])] at nd
        exact (List.nodup_append.mp nd).1
      have okp : okS (nm p) = true := hok _ (by rw [names_app, names_cons, if_neg (by simp [ht])]; simp)
      have hprod : L.length * V.length ≤ Ln := by
        have : L.length ≤ 300 := by omega
        have := Nat.mul_le_mul this hVl
        unfold Ln; omega
      obtain ⟨w5, w7, eg⟩ := recs_grow (c0 := c0) (fuel := fuel) (x0 := x0) (x1 := .val (.lst (Wd.map .str))) (x2 := .val (.int most)) (x3 := .val (.lst (L.map encO))) (x8 := z8) (x9 := z9) (p := p) (V := V) okp L [] (.own (.l (V.map encV))) x7 (.inl rfl) (fun r hr => by
        have hk := (hL r hr).keys
        refine ⟨by rw [hk]; exact nd1, fun n hn => hok n (by rw [hk] at hn; rw [names_app]; exact List.mem_append_left _ hn), ?_⟩
        have h1 := congrArg List.length hk
        have h2 := names_len (ps := pre)
        rw [List.length_map] at h1
        omega) (by simpa using hprod)
      rw [List.nil_append] at eg
      have sl := take_sl ((L.flatMap fun r => V.map fun v => r ++ [(nm p, v)]).map encO) most
      rw [← List.map_take] at sl
      obtain ⟨L', y4, y5, y6, y7, y8, y9, hy9, e, hl', hL'⟩ := recs_loop hm hW x0 ps (pre ++ [p]) (fun q hq => h0 q (List.mem_cons_of_mem _ hq)) (by rw [← ea]; exact nd) (by rw [← ea]; exact hok) (by simp; omega) ((L.flatMap fun r => V.map fun v => r ++ [(nm p, v)]).take most) (.val (enc p)) w5 (.val (.lst ((L.flatMap fun r => V.map fun v => r ++ [(nm p, v)]).map encO))) w7 z8 z9 hz9 (by rw [List.length_take]; omega) (fun r hr => by
        obtain ⟨r0, hr0, hr1⟩ := List.mem_flatMap.mp (List.mem_of_mem_take hr)
        obtain ⟨v, hv, rfl⟩ := List.mem_map.mp hr1
        refine (hL r0 hr0).app ?_
        rw [SmG]
        exact .inr ⟨ht, v, [], rfl, hV v hv, by rw [SmG]⟩)
      refine ⟨L', y4, y5, y6, y7, y8, y9, hy9, ?_, hl', by rw [ea]; exact hL'⟩
      have b1 : B_law_records_f3 c0 fuel [x0, .val (.lst (Wd.map .str)), .val (.int most), .val (.lst (L.map encO)), .val (enc p), x5, x6, x7, x8, x9, .emp, .emp] = .nx [x0, .val (.lst (Wd.map .str)), .val (.int most), .val (.lst (((L.flatMap fun r => V.map fun v => r ++ [(nm p, v)]).take most).map encO)), .val (enc p), w5, .val (.lst ((L.flatMap fun r => V.map fun v => r ++ [(nm p, v)]).map encO)), w7, z8, z9, .emp, .emp] := by
        have ev' : sIf (toB (fBin dEq (fBin dGetI (vGet 4) (vC (.int 0))) (vC (.str [102, 105, 101, 108, 100])))) (sSetO 5 (oListC (vGet 1))) (B_law_records_e1 c0 fuel) [x0, .val (.lst (Wd.map .str)), .val (.int most), .val (.lst (L.map encO)), .val (enc p), .own (.l []), x6, x7, x8, x9, .emp, .emp] = _ := ev
        rw [B_law_records_f3, sSeq_nx s1, sSeq_nx ev', sIf_t k4,
          sSeq_nx (ds' := [x0, .val (.lst (Wd.map .str)), .val (.int most), .val (.lst (L.map encO)), .val (enc p), .own (.l (V.map encV)), .own (.l []), x7, z8, z9, .emp, .emp]) (by
            simp only [sSetO, oLst, aNil, R.bind_ok, h00, if_true, toOut_ok, List.set_cons_succ, List.set_cons_zero]),
          sSeq_nx (by unfold sFor; simp only [iSeq, vGet, List.getElem?_cons_succ, List.getElem?_cons_zero, R.bind_ok, toOut_ok]; exact eg)]
        simp only [sAsg, fSl, vGetF, vGet, List.getElem?_cons_succ, List.getElem?_cons_zero, dOf, lft_some, R.bind_ok, oNone, oSome, sl, toOut_ok, gSet_app, List.set_cons_succ, List.set_cons_zero]
      rw [encs, forD]
      simp only [gSet_app, List.set_cons_succ, List.set_cons_zero, b1, loopK]
      exact e
end
theorem law_records_spec (fuel : Nat) {Wd : List (List Nat)} {most : Nat} (hm1 : 1 ≤ most) (hm : most ≤ 300) (hW : Wd.length ≤ 10) : ∀ (r d : Nat) (ps : List Pt), goodPs d ps = true → hgs ps + 1 ≤ r → RecsC (F_law_records r) fuel Wd most ps
  | 0, _, _, _, h => by omega
  | r + 1, d, ps, hg, h => by
    obtain ⟨g1, g2, g3, g4⟩ := good_parts hg
    have nd := (distinct_nodup _).mp g4
    obtain ⟨L, y4, y5, y6, y7, y8, y9, _, e, hl, hL⟩ := recs_loop (c0 := F_law_records r) (fuel := fuel) (Wd := Wd) hm hW (.val (.tup (encs ps))) ps [] (fun p hp ht hf => law_records_spec fuel hm1 hm hW r (d - 1) (inn p) (good_inn (List.all_eq_true.mp g3 p hp) ht hf) (by have := hgs_mem hp; rw [hgs_inn] at this; omega)) (by simpa using nd) (fun n hn => names_ok g3 n (by simpa using hn)) (by simp; omega) [[]] .emp .emp .emp .emp .emp .emp rfl (by simp; omega) (fun r hr => by rw [List.mem_singleton] at hr; subst hr; rw [SmG])
    refine ⟨L, ?_, by omega, by simpa using hL⟩
    show DL.finish [] (B_law_records (F_law_records r) fuel [.val (.tup (encs ps)), .val (.lst (Wd.map .str)), .val (.int most), .emp, .emp, .emp, .emp, .emp, .emp, .emp, .emp, .emp]) = _
    have h1 : ([.dic 0 []] : List D).length ≤ Ln := by show 1 ≤ Ln; decide
    rw [B_law_records, sSeq_nx (ds' := [.val (.tup (encs ps)), .val (.lst (Wd.map .str)), .val (.int most), .val (.lst ([[]].map encO)), .emp, .emp, .emp, .emp, .emp, .emp, .emp, .emp]) (by
        simp only [sAsg, mkLst, aCons, aNil, ofO, oC, dOf, lft_some, R.bind_ok, h1, if_true, toOut_ok, gSet_app, List.set_cons_succ, List.set_cons_zero]
        rfl),
      sSeq_nx (by unfold sFor; simp only [iSeq, vGet, List.getElem?_cons_succ, List.getElem?_cons_zero, R.bind_ok, toOut_ok]; exact e)]
    simp only [sRet, vGet, List.getElem?_cons_succ, List.getElem?_cons_zero, toOut_ok]
    rfl
/-! ### the law's alike parts -/
def setInn (p : Pt) (qs : List Pt) : Pt := match p with
  | .opt n _ => .opt n qs
  | .rep n s _ => .rep n s qs
  | p => p
theorem enc_setInn (p : Pt) (qs : List Pt) (hs : isText p = false) (hf : isField p = false) : ∃ l, dSl (enc p) none (some (-1)) = some (.tup l) ∧ dAdd (.tup l) (.tup [.tup (encs qs)]) = some (enc (setInn p qs)) := by
  cases p with
  | text s => simp [isText] at hs
  | field s => simp [isField] at hf
  | opt n ps => exact ⟨[.str kI, .str n], rfl, by unfold dAdd; dsimp only; rw [if_pos (by show 3 ≤ Ln; decide)]; rfl⟩
  | rep n s ps => exact ⟨[.str kE, .str n, .str s], rfl, by unfold dAdd; dsimp only; rw [if_pos (by show 4 ≤ Ln; decide)]; rfl⟩
/-- a part with other separators and other parts inside -/
def ChP (p q : Pt) : Prop := nm q = nm p ∧ kind q = kind p ∧ (isField p = false → ∀ k, hgs (inn p) ≤ k → Alk k (inn p) (inn q))
theorem any_field {k : Nat} {t o : List Pt} (h : Alk k t o) (hf : t.any isField = true) : o.any isField = true := by
  cases k with
  | zero => exact h.elim
  | succ k =>
    obtain ⟨p, hp, hpf⟩ := List.any_eq_true.mp hf
    have ht : isText p = false := by cases p <;> simp [isField] at hpf; rfl
    obtain ⟨q, hq, _, e2, _⟩ := h.2.2.1 p hp ht
    exact List.any_eq_true.mpr ⟨q, hq, by rw [kind_isField e2]; exact hpf⟩
theorem alk_hgs : ∀ (k : Nat) (t o : List Pt), Alk k t o → hgs o ≤ k
  | 0, _, _, h => h.elim
  | k + 1, t, o, h => by
    obtain ⟨n1, n2, h1, h2⟩ := h
    have key : ∀ l : List Pt, (∀ q ∈ l, q ∈ o) → hgs l ≤ k + 1 := fun l => by
      induction l with
      | nil => intro _; exact Nat.zero_le _
      | cons q l ih =>
        intro hl
        rw [hgs]
        have h3 := ih fun z hz => hl z (List.mem_cons_of_mem _ hz)
        have hq := hl q List.mem_cons_self
        have h4 : hgP q ≤ k := by
          cases tq : isText q with
          | true => cases q <;> simp [isText] at tq; exact Nat.zero_le _
          | false =>
            cases fq : isField q with
            | true => cases q <;> simp [isField] at fq; exact Nat.zero_le _
            | false =>
              obtain ⟨p, hp, tp, e⟩ := h2 q hq tq
              obtain ⟨q', hq', e1, e2, e3, _⟩ := h1 p hp tp
              have : q' = q := uniq_name n2 hq' hq (by rw [kind_isText e2]; exact tp) tq (e1.trans e)
              subst this
              rw [hgs_inn]
              exact alk_hgs k _ _ (e3 (by rw [← kind_isField e2]; exact fq))
        omega
    exact key o fun _ h => h
theorem ne_lst0 (l : List Pt) (h : hgs l ≤ 20) : dNe (.lst (encs l)) (.lst []) = some (.bl (!l.isEmpty)) := by
  unfold dNe
  rw [if_pos ⟨plain_lst l h, rfl⟩]
  cases l with
  | nil => rfl
  | cons p l => rw [encs]; rfl
section
variable {c0 : Nat → List Sl → Res} {fuel : Nat} {ns : List Int}
def ChgC (c0 : Nat → List Sl → Res) (fuel : Nat) (ns : List Int) (t : List Pt) : Prop := ∀ tw, Tw tw → ∃ (o : List Pt) (c : Ct), c0 fuel [.val (.scr ns), tw, .val (.tup (encs t))] = .ret (.tup (encs o)) [c] ∧ (∀ k, hgs t ≤ k → Alk k t o) ∧ Tw (.own c)
theorem chg_body {d : Nat} (p : Pt) (hg : goodP d p = true) (ht : isText p = false) (h0 : isField p = false → ChgC c0 fuel ns (inn p)) (x2 x5 : Sl) (tw : Sl) (hw : Tw tw) (T M : List Pt) (hT : ∀ q ∈ T, isText q = true) (hl : M.length + T.length + 2 < Ln) :
    ∃ (q tw' : _) (T' M' : List Pt) (y4 : Sl), B_law_changed_f2 c0 fuel [.val (.scr ns), tw, x2, .own (.l (encs T)), .val (enc p), x5, .own (.l (encs M))] = .nx [.val (.scr ns), tw', x2, .own (.l (encs T')), y4, x5, .own (.l (encs (M ++ M' ++ [q])))]
      ∧ ChP p q ∧ Tw tw' ∧ (∀ z ∈ M', isText z = true) ∧ (∀ z ∈ T', isText z = true) ∧ M'.length + T'.length = T.length := by
  -- what is inside
  have hin : (!(inn p).isEmpty) = (!isField p) := by
    have := sec_test p hg
    cases p with
    | text s => simp [isText] at ht
    | field s => rfl
    | opt n ps => rw [← this]; simp [kind, kI, isField]
    | rep n s ps => rw [← this]; simp [kind, kE, isField]
  have s1 : ∃ (p1 : Pt) (tw1 : Sl), sIf (toB (fBin dIn (fBin dGetI (vGet 4) (vC (.int 0))) (mkTup (aCons (vC (.str [105, 102])) (aCons (vC (.str [101, 97, 99, 104])) (aNil)))))) (B_law_changed_i0 c0 fuel) (sNx) [.val (.scr ns), tw, x2, .own (.l (encs T)), .val (enc p), x5, .own (.l (encs M))] = .nx [.val (.scr ns), tw1, x2, .own (.l (encs T)), .val (enc p1), x5, .own (.l (encs M))] ∧ ChP p p1 ∧ Tw tw1 ∧ isText p1 = false := by
    have tk : toB (fBin dIn (fBin dGetI (vGet 4) (vC (.int 0))) (mkTup (aCons (vC (.str [105, 102])) (aCons (vC (.str [101, 97, 99, 104])) (aNil))))) [.val (.scr ns), tw, x2, .own (.l (encs T)), .val (enc p), x5, .own (.l (encs M))] = .ok (!isField p, [.val (.scr ns), tw, x2, .own (.l (encs T)), .val (enc p), x5, .own (.l (encs M))]) := by
      have hs := sec_test p hg
      have e : mkTup (aCons (vC (.str [105, 102])) (aCons (vC (.str [101, 97, 99, 104])) aNil)) [.val (.scr ns), tw, x2, .own (.l (encs T)), .val (enc p), x5, .own (.l (encs M))] = .ok (.tup [.str [105, 102], .str [101, 97, 99, 104]], [.val (.scr ns), tw, x2, .own (.l (encs T)), .val (enc p), x5, .own (.l (encs M))]) := by simp [mkTup, aCons, aNil, vC, R.bind, Ln]
      simp only [toB, fBin, vGet, vC, List.getElem?_cons_succ, List.getElem?_cons_zero, R.bind_ok, enc_0, lft_some, e, in2', hs, hin]
    cases hf : isField p with
    | true =>
      rw [hf] at tk
      refine ⟨p, tw, ?_, ⟨rfl, rfl, fun z => by rw [hf] at z; cases z⟩, hw, ht⟩
      rw [sIf_f tk]; rfl
    | false =>
      rw [hf] at tk
      obtain ⟨o, c, ec, ha, hc⟩ := h0 hf tw hw
      obtain ⟨l, el, ea⟩ := enc_setInn p o ht hf
      obtain ⟨a, z, rfl, _, _⟩ := hw
      have gl : dGetI (enc p) (.int (-1)) = some (.tup (encs (inn p))) := last_inn (d := d) p (by rw [hin, hf]; rfl)
      have h1 : ([.tup (encs o)] : List D).length ≤ Ln := by show 1 ≤ Ln; decide
      refine ⟨setInn p o, .own c, ?_, ?_, hc, by cases p <;> simp [isText] at ht <;> rfl⟩
      · rw [sIf_t tk]
        simp only [B_law_changed_i0, sAsg, fBin, fSl, vGet, vC, fUn, dNeg, List.getElem?_cons_succ, List.getElem?_cons_zero, R.bind_ok, oNone, oSome, lft_some, el, mkTup, aCons, aNil, fCallF, aaVal, aaOwn, aaNil, gl, asOf, idxOf, Option.map_some, ec, List.nodup_cons, List.not_mem_nil, not_false_eq_true, List.nodup_nil, and_self, if_true, putCs, h1, ea, toOut_ok, gSet_app, List.set_cons_succ, List.set_cons_zero]
      · cases p with
        | text s => simp [isText] at ht
        | field s => simp [isField] at hf
        | opt n ps => exact ⟨rfl, rfl, fun _ => ha⟩
        | rep n s ps => exact ⟨rfl, rfl, fun _ => ha⟩
  obtain ⟨p1, tw1, e1, c1, hw1, ht1⟩ := s1
  -- another separator
  have s2 : ∃ (p2 : Pt) (tw2 : Sl), sIf (bAnd (toB (fBin dEq (fBin dGetI (vGet 4) (vC (.int 0))) (vC (.str [101, 97, 99, 104])))) (toB (fBin dEq (fCallF (F_law_draw fuel) (aaVal (vGet 0) (aaOwn 1 (aaVal (vC (.int 4)) (aaNil))))) (vC (.int 0))))) (B_law_changed_i1 c0 fuel) (sNx) [.val (.scr ns), tw1, x2, .own (.l (encs T)), .val (enc p1), x5, .own (.l (encs M))] = .nx [.val (.scr ns), tw2, x2, .own (.l (encs T)), .val (enc p2), x5, .own (.l (encs M))] ∧ ChP p p2 ∧ Tw tw2 ∧ isText p2 = false := by
    have tk := test_kind 4 (ds := [.val (.scr ns), tw1, x2, .own (.l (encs T)), .val (enc p1), x5, .own (.l (encs M))]) (p := p1) rfl [101, 97, 99, 104]
    by_cases hk : kind p1 = [101, 97, 99, 104]
    · rw [decide_eq_true hk] at tk
      obtain ⟨q, tw2, eq, hq, hw2⟩ := call_draw (fuel := fuel) (ns := ns) (t := tw1) (rest := [x2, .own (.l (encs T)), .val (enc p1), x5, .own (.l (encs M))]) (fm := vC (.int 4)) (m := 4) rfl (by decide) (by decide) hw1
      have tt : bAnd (toB (fBin dEq (fBin dGetI (vGet 4) (vC (.int 0))) (vC (.str [101, 97, 99, 104])))) (toB (fBin dEq (fCallF (F_law_draw fuel) (aaVal (vGet 0) (aaOwn 1 (aaVal (vC (.int 4)) (aaNil))))) (vC (.int 0)))) [.val (.scr ns), tw1, x2, .own (.l (encs T)), .val (enc p1), x5, .own (.l (encs M))] = .ok (((q : Int) == 0), [.val (.scr ns), tw2, x2, .own (.l (encs T)), .val (enc p1), x5, .own (.l (encs M))]) := by
        unfold bAnd
        rw [tk]
        simp only [R.bind_ok, if_true]
        rw [toB, fBin, eq]
        simp only [R.bind_ok, vC, eq_int, lft_some]
      cases hb : ((q : Int) == 0) with
      | false =>
        rw [hb] at tt
        exact ⟨p1, tw2, by rw [sIf_f tt]; rfl, c1, hw2, ht1⟩
      | true =>
        rw [hb] at tt
        cases p1 with
        | rep n s ps =>
          obtain ⟨x, tw3, e3, hx, hw3⟩ := call_pick (fuel := fuel) (ns := ns) (t := tw2) (rest := [x2, .own (.l (encs T)), .val (enc (.rep n s ps)), x5, .own (.l (encs M))]) (fm := mkLst (aCons (vC (.str [])) (aCons (vC (.str [44])) (aCons (vC (.str [97])) (aNil))))) (l := [.str [], .str [44], .str [97]]) (by simp [mkLst, aCons, aNil, vC, R.bind, Ln]) (by simp) (by simp) hw2
          obtain ⟨s', rfl⟩ : ∃ s', x = .str s' := by
            simp only [List.mem_cons, List.not_mem_nil, or_false] at hx
            rcases hx with rfl | rfl | rfl <;> exact ⟨_, rfl⟩
          have g0 : dGetI (enc (.rep n s ps)) (.int 0) = some (.str kE) := enc_0 _
          have g1 : dGetI (enc (.rep n s ps)) (.int 1) = some (.str n) := enc_1 _
          have g3 : dGetI (enc (.rep n s ps)) (.int 3) = some (.tup (encs ps)) := rfl
          have h4 : ([.str kE, .str n, .str s', .tup (encs ps)] : List D).length ≤ Ln := by show 4 ≤ Ln; decide
          refine ⟨.rep n s' ps, tw3, ?_, c1, hw3, rfl⟩
          rw [sIf_t tt]
          generalize hgg : fCallF (F_law_pick fuel) (aaVal (vGet 0) (aaOwn 1 (aaVal (mkLst (aCons (vC (.str [])) (aCons (vC (.str [44])) (aCons (vC (.str [97])) (aNil))))) (aaNil)))) = g at e3
          have tp : mkTup (aCons (fBin dGetI (vGet 4) (vC (.int 0))) (aCons (fBin dGetI (vGet 4) (vC (.int 1))) (aCons g (aCons (fBin dGetI (vGet 4) (vC (.int 3))) (aNil))))) [.val (.scr ns), tw2, x2, .own (.l (encs T)), .val (enc (.rep n s ps)), x5, .own (.l (encs M))] = .ok (enc (.rep n s' ps), [.val (.scr ns), tw3, x2, .own (.l (encs T)), .val (enc (.rep n s ps)), x5, .own (.l (encs M))]) := by
            simp only [mkTup, aCons, aNil, fBin, vGet, vC, List.getElem?_cons_succ, List.getElem?_cons_zero, R.bind_ok, g0, g1, g3, lft_some, e3, h4, if_true]
            rfl
          have b1 : B_law_changed_i1 c0 fuel [.val (.scr ns), tw2, x2, .own (.l (encs T)), .val (enc (.rep n s ps)), x5, .own (.l (encs M))] = .nx [.val (.scr ns), tw3, x2, .own (.l (encs T)), .val (enc (.rep n s' ps)), x5, .own (.l (encs M))] := by
            unfold B_law_changed_i1 sAsg
            rw [hgg, tp]; rfl
          exact b1
        | text s => simp [kind, kT] at hk
        | field s => simp [kind, kF] at hk
        | opt n ps => simp [kind, kI] at hk
    · rw [decide_eq_false hk] at tk
      refine ⟨p1, tw1, ?_, c1, hw1, ht1⟩
      rw [sIf_f (ds' := [.val (.scr ns), tw1, x2, .own (.l (encs T)), .val (enc p1), x5, .own (.l (encs M))])]
      · rfl
      · unfold bAnd; rw [tk]; rfl
  obtain ⟨p2, tw2, e2, c2, hw2, ht2⟩ := s2
  -- a text ahead
  have s3 : ∃ (tw3 : Sl) (T' M' : List Pt), sIf (bAnd (toB (fEqOwn true 3 (mkLst (aNil)))) (toB (fBin dEq (fCallF (F_law_draw fuel) (aaVal (vGet 0) (aaOwn 1 (aaVal (vC (.int 2)) (aaNil))))) (vC (.int 0))))) (sApp 6 (fPopAt 3 (vC (.int 0)))) (sNx) [.val (.scr ns), tw2, x2, .own (.l (encs T)), .val (enc p2), x5, .own (.l (encs M))] = .nx [.val (.scr ns), tw3, x2, .own (.l (encs T')), .val (enc p2), x5, .own (.l (encs (M ++ M')))]
      ∧ Tw tw3 ∧ (∀ z ∈ M', isText z = true) ∧ (∀ z ∈ T', isText z = true) ∧ M'.length + T'.length = T.length := by
    have hT20 : hgs T ≤ 20 := by
      have : ∀ l : List Pt, (∀ q ∈ l, isText q = true) → hgs l ≤ 1 := fun l => by
        induction l with
        | nil => intro _; exact Nat.zero_le _
        | cons q l ih =>
          intro h
          have h1 := ih fun z hz => h z (List.mem_cons_of_mem _ hz)
          have h2 := h q List.mem_cons_self
          have : hgP q = 0 := by cases q <;> simp [isText] at h2; rfl
          rw [hgs]; omega
      have := this T hT
      omega
    have h00 : ([] : List D).length ≤ Ln := by show 0 ≤ Ln; decide
    have tk : toB (fEqOwn true 3 (mkLst (aNil))) [.val (.scr ns), tw2, x2, .own (.l (encs T)), .val (enc p2), x5, .own (.l (encs M))] = .ok (!T.isEmpty, [.val (.scr ns), tw2, x2, .own (.l (encs T)), .val (enc p2), x5, .own (.l (encs M))]) := by
      simp only [toB, fEqOwn, List.getElem?_cons_succ, List.getElem?_cons_zero, mkLst, aNil, R.bind_ok, h00, if_true, ne_lst0 T hT20, lft_some]
    cases T with
    | nil =>
      refine ⟨tw2, [], [], ?_, hw2, by simp, by simp, rfl⟩
      rw [sIf_f (ds' := [.val (.scr ns), tw2, x2, .own (.l (encs [])), .val (enc p2), x5, .own (.l (encs M))])]
      · simp [sNx]
      · unfold bAnd; rw [tk]; rfl
    | cons q T =>
      obtain ⟨b, tw3, eb, hb, hw3⟩ := call_draw (fuel := fuel) (ns := ns) (t := tw2) (rest := [x2, .own (.l (encs (q :: T))), .val (enc p2), x5, .own (.l (encs M))]) (fm := vC (.int 2)) (m := 2) rfl (by decide) (by decide) hw2
      have tt : bAnd (toB (fEqOwn true 3 (mkLst (aNil)))) (toB (fBin dEq (fCallF (F_law_draw fuel) (aaVal (vGet 0) (aaOwn 1 (aaVal (vC (.int 2)) (aaNil))))) (vC (.int 0)))) [.val (.scr ns), tw2, x2, .own (.l (encs (q :: T))), .val (enc p2), x5, .own (.l (encs M))] = .ok (((b : Int) == 0), [.val (.scr ns), tw3, x2, .own (.l (encs (q :: T))), .val (enc p2), x5, .own (.l (encs M))]) := by
        unfold bAnd
        rw [tk]
        simp only [R.bind_ok, List.isEmpty_cons, Bool.not_false, if_true]
        rw [toB, fBin, eb]
        simp only [R.bind_ok, vC, eq_int, lft_some]
      cases hbb : ((b : Int) == 0) with
      | false =>
        rw [hbb] at tt
        exact ⟨tw3, q :: T, [], by rw [sIf_f tt]; simp [sNx], hw3, by simp, hT, by simp⟩
      | true =>
        rw [hbb] at tt
        refine ⟨tw3, T, [q], ?_, hw3, fun z hz => by rw [List.mem_singleton] at hz; subst hz; exact hT _ List.mem_cons_self, fun z hz => hT z (List.mem_cons_of_mem _ hz), by simp; omega⟩
        rw [sIf_t tt]
        have ix : ixD (encs (q :: T)).length 0 = some 0 := by
          unfold ixD
          rw [if_pos (by decide), if_pos (by rw [encs_len, List.length_cons]; omega)]
          rfl
        have hM : (encs M).length < Ln := by rw [encs_len]; omega
        simp only [encs] at ix
        rw [encs_app]
        simp only [sApp, fPopAt, vC, encs, List.getElem?_cons_succ, List.getElem?_cons_zero, R.bind_ok, ix, List.set_cons_succ, List.set_cons_zero, toOut_ok, hM, if_true, List.eraseIdx_cons_zero]
  obtain ⟨tw3, T', M', e3, hw3, hM', hT', hlen⟩ := s3
  refine ⟨p2, tw3, T', M', .val (enc p2), ?_, c2, hw3, hM', hT', hlen⟩
  have hM : (encs (M ++ M')).length < Ln := by rw [encs_len, List.length_append]; omega
  rw [B_law_changed_f2, sSeq_nx e1, sSeq_nx e2, sSeq_nx e3, sApp_ok (xs := encs (M ++ M')) (d := enc p2) rfl rfl hM]
  rw [encs_app (M ++ M')]
  simp [encs]

theorem chg_loop {d : Nat} (x2 x5 : Sl) : ∀ (ps : List Pt), (∀ p ∈ ps, goodP d p = true ∧ isText p = false ∧ (isField p = false → ChgC c0 fuel ns (inn p))) → ∀ (tw : Sl), Tw tw → ∀ (T M : List Pt) (x4 : Sl), (∀ q ∈ T, isText q = true) → M.length + T.length + 2 * ps.length + 2 < Ln →
    ∃ (Q : List Pt) (tw' : Sl) (T' : List Pt) (y4 : Sl), forD (gSet 4) (B_law_changed_f2 c0 fuel) (encs ps) [.val (.scr ns), tw, x2, .own (.l (encs T)), x4, x5, .own (.l (encs M))] = .nx [.val (.scr ns), tw', x2, .own (.l (encs T')), y4, x5, .own (.l (encs (M ++ Q)))]
      ∧ Tw tw' ∧ (∀ z ∈ T', isText z = true) ∧ names Q = ps.map nm ∧ (∀ p ∈ ps, ∃ q ∈ Q, ChP p q) ∧ (∀ q ∈ Q, isText q = false → ∃ p ∈ ps, ChP p q) ∧ Q.length + T'.length = ps.length + T.length
  | [], _, tw, hw, T, M, x4, hT, _ => ⟨[], tw, T, x4, by simp [encs, forD], hw, hT, rfl, by simp, by simp, by simp⟩
  | p :: ps, h, tw, hw, T, M, x4, hT, hl => by
    obtain ⟨h1, h2, h3⟩ := h p List.mem_cons_self
    rw [List.length_cons] at hl
    obtain ⟨q, tw1, T1, M1, z4, e1, c1, hw1, hM1, hT1, hlen⟩ := chg_body (c0 := c0) (fuel := fuel) (ns := ns) p h1 h2 h3 x2 x5 tw hw T M hT (by omega)
    obtain ⟨Q, tw2, T2, y4, e2, hw2, hT2, hn, hp, hq, hl2⟩ := chg_loop x2 x5 ps (fun z hz => h z (List.mem_cons_of_mem _ hz)) tw1 hw1 T1 (M ++ M1 ++ [q]) z4 hT1 (by simp only [List.length_append, List.length_cons, List.length_nil]; omega)
    have tq : isText q = false := by rw [kind_isText c1.2.1]; exact h2
    refine ⟨M1 ++ q :: Q, tw2, T2, y4, ?_, hw2, hT2, ?_, fun z hz => ?_, fun z hz tz => ?_, by simp only [List.length_append, List.length_cons]; omega⟩
    · rw [encs, forD]
      simp only [gSet_app, List.set_cons_succ, List.set_cons_zero, e1, loopK]
      rw [e2]
      simp
    · have : names M1 = [] := by
        unfold names named
        have : M1.filter (fun p => !isText p) = [] := List.filter_eq_nil_iff.mpr fun z hz => by simp [hM1 z hz]
        rw [this]; rfl
      rw [names_app, this, names_cons, if_neg (by simp [tq]), hn, List.map_cons, c1.1]
      rfl
    · rcases List.mem_cons.mp hz with rfl | hz
      · exact ⟨q, by simp, c1⟩
      · obtain ⟨w, hw, k⟩ := hp z hz
        exact ⟨w, by simp [hw], k⟩
    · rcases List.mem_append.mp hz with hz | hz
      · rw [hM1 z hz] at tz; cases tz
      · rcases List.mem_cons.mp hz with rfl | hz
        · exact ⟨p, List.mem_cons_self, c1⟩
        · obtain ⟨w, hw, k⟩ := hq z hz tz
          exact ⟨w, List.mem_cons_of_mem _ hw, k⟩
end
theorem law_changed_spec (fuel : Nat) (ns : List Int) : ∀ (r d : Nat) (ps : List Pt), goodPs d ps = true → hgs ps + 1 ≤ r → ChgC (F_law_changed r) fuel ns ps
  | 0, _, _, _, h => by omega
  | r + 1, d, ps, hg, h => by
    intro tw hw
    obtain ⟨g1, g2, g3, g4⟩ := good_parts hg
    have nd := (distinct_nodup _).mp g4
    have hsub : ∀ p ∈ named ps, goodP d p = true ∧ isText p = false ∧ (isField p = false → ChgC (F_law_changed r) fuel ns (inn p)) := fun p hp => by
      obtain ⟨hm, hx⟩ := List.mem_filter.mp hp
      have ht : isText p = false := by simpa using hx
      refine ⟨List.all_eq_true.mp g3 p hm, ht, fun hf => law_changed_spec fuel ns r (d - 1) (inn p) (good_inn (List.all_eq_true.mp g3 p hm) ht hf) (by have := hgs_mem hm; rw [hgs_inn] at this; omega)⟩
    have hnl : (named ps).length ≤ 6 := Nat.le_trans (List.length_filter_le _ _) g2
    have htl : (ps.filter isText).length ≤ 6 := Nat.le_trans (List.length_filter_le _ _) g2
    -- the first names
    have e1 : ∀ (t : Sl) (x3 x5 x6 : Sl), lcD [4] (gSet 4) (toB (fBin dNe (fBin dGetI (vGet 4) (vC (.int 0))) (vC (.str [116, 101, 120, 116])))) (vGet 4) (encs ps) [.val (.scr ns), t, .val (.tup (encs ps)), x3, .emp, x5, x6] = .ok ((named ps).map enc, [.val (.scr ns), t, .val (.tup (encs ps)), x3, .emp, x5, x6]) := fun t x3 x5 x6 => by
      rw [encs_map ps]
      refine lcD_filter enc (fun p => !isText p) enc rfl ps fun p hp => ⟨[.val (.scr ns), t, .val (.tup (ps.map enc)), x3, .val (enc p), x5, x6], [.val (.scr ns), t, .val (.tup (ps.map enc)), x3, .val (enc p), x5, x6], rfl, ?_, fun _ => rfl, fun _ => ⟨[.val (.scr ns), t, .val (.tup (ps.map enc)), x3, .val (enc p), x5, x6], rfl, rfl⟩⟩
      simp only [toB, fBin, vGet, vC, List.getElem?_cons_succ, List.getElem?_cons_zero, R.bind_ok, enc_0, lft_some, ne_str, kind_text]
      cases isText p <;> rfl
    have e2 : ∀ (t : Sl) (x3 x5 x6 : Sl), lcD [4] (gSet 4) (toB (fBin dEq (fBin dGetI (vGet 4) (vC (.int 0))) (vC (.str [116, 101, 120, 116])))) (vGet 4) (encs ps) [.val (.scr ns), t, .val (.tup (encs ps)), x3, .emp, x5, x6] = .ok ((ps.filter isText).map enc, [.val (.scr ns), t, .val (.tup (encs ps)), x3, .emp, x5, x6]) := fun t x3 x5 x6 => by
      rw [encs_map ps]
      refine lcD_filter enc isText enc rfl ps fun p hp => ⟨[.val (.scr ns), t, .val (.tup (ps.map enc)), x3, .val (enc p), x5, x6], [.val (.scr ns), t, .val (.tup (ps.map enc)), x3, .val (enc p), x5, x6], rfl, ?_, fun _ => rfl, fun _ => ⟨[.val (.scr ns), t, .val (.tup (ps.map enc)), x3, .val (enc p), x5, x6], rfl, rfl⟩⟩
      simp only [toB, fBin, vGet, vC, List.getElem?_cons_succ, List.getElem?_cons_zero, R.bind_ok, enc_0, lft_some, eq_str, kind_text]
      cases isText p <;> rfl
    have h00 : ([] : List D).length ≤ Ln := by show 0 ≤ Ln; decide
    have s1 : sMix [5, 6] (amV (ofO (oLc [4] (iSeq (vGet 2)) (gSet 4) (toB (fBin dNe (fBin dGetI (vGet 4) (vC (.int 0))) (vC (.str [116, 101, 120, 116])))) (vGet 4))) (amO (oLst (aNil)) (amNil))) [.val (.scr ns), tw, .val (.tup (encs ps)), .emp, .emp, .emp, .emp] = .nx [.val (.scr ns), tw, .val (.tup (encs ps)), .emp, .emp, .val (.lst (encs (named ps))), .own (.l [])] := by
      simp only [sMix, amV, ofO, oLc, iSeq, vGet, List.getElem?_cons_succ, List.getElem?_cons_zero, R.bind_ok, e1, dOf, lft_some, amO, oLst, aNil, Nat.zero_le, if_true, amNil, toOut_ok, List.length_cons, List.length_nil, putM, List.set_cons_succ, List.set_cons_zero, encs_map (named ps)]
    have s2 : sSetO 3 (oLc [4] (iSeq (vGet 2)) (gSet 4) (toB (fBin dEq (fBin dGetI (vGet 4) (vC (.int 0))) (vC (.str [116, 101, 120, 116])))) (vGet 4)) [.val (.scr ns), tw, .val (.tup (encs ps)), .emp, .emp, .val (.lst (encs (named ps))), .own (.l [])] = .nx [.val (.scr ns), tw, .val (.tup (encs ps)), .own (.l (encs (ps.filter isText))), .emp, .val (.lst (encs (named ps))), .own (.l [])] := by
      simp only [sSetO, oLc, iSeq, vGet, List.getElem?_cons_succ, List.getElem?_cons_zero, R.bind_ok, e2, toOut_ok, List.set_cons_succ, List.set_cons_zero, encs_map (ps.filter isText)]
    -- the order
    have s3 : ∃ (A : List Pt) (tw1 : Sl), sIf (toB (fBin dEq (fCallF (F_law_draw fuel) (aaVal (vGet 0) (aaOwn 1 (aaVal (vC (.int 3)) (aaNil))))) (vC (.int 0)))) (sAsg (fUn dRev (vGet 5)) (gSet 5)) (sNx) [.val (.scr ns), tw, .val (.tup (encs ps)), .own (.l (encs (ps.filter isText))), .emp, .val (.lst (encs (named ps))), .own (.l [])] = .nx [.val (.scr ns), tw1, .val (.tup (encs ps)), .own (.l (encs (ps.filter isText))), .emp, .val (.lst (encs A)), .own (.l [])] ∧ A.Perm (named ps) ∧ Tw tw1 := by
      obtain ⟨q, tw1, eq, hq, hw1⟩ := call_draw (fuel := fuel) (ns := ns) (t := tw) (rest := [.val (.tup (encs ps)), .own (.l (encs (ps.filter isText))), .emp, .val (.lst (encs (named ps))), .own (.l [])]) (fm := vC (.int 3)) (m := 3) rfl (by decide) (by decide) hw
      have tt : toB (fBin dEq (fCallF (F_law_draw fuel) (aaVal (vGet 0) (aaOwn 1 (aaVal (vC (.int 3)) (aaNil))))) (vC (.int 0))) [.val (.scr ns), tw, .val (.tup (encs ps)), .own (.l (encs (ps.filter isText))), .emp, .val (.lst (encs (named ps))), .own (.l [])] = .ok (((q : Int) == 0), [.val (.scr ns), tw1, .val (.tup (encs ps)), .own (.l (encs (ps.filter isText))), .emp, .val (.lst (encs (named ps))), .own (.l [])]) := by
        rw [toB, fBin, eq]
        simp only [R.bind_ok, vC, eq_int, lft_some]
      cases hb : ((q : Int) == 0) with
      | false =>
        rw [hb] at tt
        exact ⟨named ps, tw1, by rw [sIf_f tt]; rfl, List.Perm.refl _, hw1⟩
      | true =>
        rw [hb] at tt
        refine ⟨(named ps).reverse, tw1, ?_, List.reverse_perm _, hw1⟩
        rw [sIf_t tt]
        simp only [sAsg, fUn, dRev, vGet, List.getElem?_cons_succ, List.getElem?_cons_zero, R.bind_ok, lft_some, toOut_ok, gSet_app, List.set_cons_succ, List.set_cons_zero, encs_map, List.map_reverse]
    obtain ⟨A, tw1, e3, hA, hw1⟩ := s3
    obtain ⟨Q, tw2, T', y4, e4, hw2, hT', hn, hp, hq, hl⟩ := chg_loop (c0 := F_law_changed r) (fuel := fuel) (ns := ns) (d := d) (.val (.tup (encs ps))) (.val (.lst (encs A))) A (fun p hp => hsub p (hA.mem_iff.mp hp)) tw1 hw1 (ps.filter isText) [] .emp (fun q hq => (List.mem_filter.mp hq).2) (by have := hA.length_eq; simp only [List.length_nil]; unfold Ln; omega)
    rw [List.nil_append] at e4
    have hperm : (names Q).Perm (names ps) := by rw [hn]; exact hA.map nm
    have nT : names T' = [] := by
      unfold names named
      have : T'.filter (fun p => !isText p) = [] := List.filter_eq_nil_iff.mpr fun z hz => by simp [hT' z hz]
      rw [this]; rfl
    have nO : names (Q ++ T') = names Q := by rw [names_app, nT, List.append_nil]
    obtain ⟨a0, z0, rfl, _, _⟩ := hw
    obtain ⟨a1, z1, rfl, v1, v2⟩ := hw2
    refine ⟨Q ++ T', .l [.int a1, .int z1], ?_, fun k hk => ?_, ⟨a1, z1, rfl, v1, v2⟩⟩
    · show DL.finish [1] (B_law_changed (F_law_changed r) fuel [.val (.scr ns), .own (.l [.int a0, .int z0]), .val (.tup (encs ps)), .emp, .emp, .emp, .emp]) = _
      have ad : dAdd (.lst (encs Q)) (.lst (encs T')) = some (.lst (encs (Q ++ T'))) := by
        unfold dAdd
        dsimp only
        rw [if_pos (by rw [encs_len, encs_len]; have := hA.length_eq; unfold Ln; omega), encs_app]
      rw [B_law_changed, sSeq_nx s1, sSeq_nx s2, sSeq_nx e3, sSeq_nx (by unfold sFor; simp only [iSeq, vGet, List.getElem?_cons_succ, List.getElem?_cons_zero, R.bind_ok, toOut_ok]; exact e4)]
      simp only [sRet, fCall, aCons, aNil, fBin, vGetF, List.getElem?_cons_succ, List.getElem?_cons_zero, dOf, lft_some, R.bind_ok, List.set_cons_succ, List.set_cons_zero, ad, dTuple, toOut_ok]
      rfl
    · cases k with
      | zero =>
        cases ps with
        | nil => simp at g1
        | cons p ps => rw [hgs] at hk; omega
      | succ k =>
        refine ⟨nd, by rw [nO]; exact hperm.nodup_iff.mpr nd, fun p hpm tp => ?_, fun q hqm tq => ?_⟩
        · obtain ⟨q, hqm, c1, c2, c3⟩ := hp p (hA.mem_iff.mpr (List.mem_filter.mpr ⟨hpm, by simp [tp]⟩))
          have hh := hgs_mem hpm
          rw [hgs_inn] at hh
          refine ⟨q, List.mem_append_left _ hqm, c1, c2, fun hf => c3 hf k (by omega), fun hk => ?_⟩
          have gp := List.all_eq_true.mp g3 p hpm
          have hfp : (inn p).any isField = true := by
            cases p with
            | rep n s l => simp only [goodP, Bool.and_eq_true] at gp; exact gp.2.2.2.2
            | text s => simp [kind, kT, kE] at hk
            | field s => simp [kind, kF, kE] at hk
            | opt n s => simp [kind, kI, kE] at hk
          have nf : isField p = false := by cases p <;> simp [kind, kF, kE] at hk <;> rfl
          exact ⟨hfp, any_field (c3 nf k (by omega)) hfp⟩
        · rcases List.mem_append.mp hqm with hqm | hqm
          · obtain ⟨p, hpm, c1, c2, _⟩ := hq q hqm tq
            obtain ⟨hm, hx⟩ := List.mem_filter.mp (hA.mem_iff.mp hpm)
            exact ⟨p, hm, by simpa using hx, c1.symm⟩
          · rw [hT' q hqm] at tq; cases tq
/-! ### the law's templates are good -/
theorem good_mono : ∀ d : Nat, (∀ p, goodP d p = true → goodP (d + 1) p = true) ∧ (∀ ps, goodPs d ps = true → goodPs (d + 1) ps = true) := by
  have lift : ∀ d, (∀ p, goodP d p = true → goodP (d + 1) p = true) → ∀ ps, goodPs d ps = true → goodPs (d + 1) ps = true := fun d h ps hg => by
    simp only [goodPs, goodAll_all, Bool.and_eq_true, List.all_eq_true] at hg ⊢
    exact ⟨hg.1, hg.2.1, fun p hp => h p (hg.2.2.1 p hp), hg.2.2.2⟩
  intro d
  induction d with
  | zero =>
    have key : ∀ p, goodP 0 p = true → goodP 1 p = true := fun p hp => by
      cases p with
      | text s => simpa [goodP] using hp
      | field s => simpa [goodP] using hp
      | opt n ps => simp [goodP] at hp
      | rep n s ps => simp [goodP] at hp
    exact ⟨key, lift 0 key⟩
  | succ d ih =>
    have key : ∀ p, goodP (d + 1) p = true → goodP (d + 1 + 1) p = true := fun p hp => by
      cases p with
      | text s => simpa [goodP] using hp
      | field s => simpa [goodP] using hp
      | opt n ps =>
        simp only [goodP, Bool.and_eq_true, Nat.add_sub_cancel, decide_eq_true_eq] at hp ⊢
        exact ⟨hp.1, by omega, ih.2 ps hp.2.2⟩
      | rep n s ps =>
        simp only [goodP, Bool.and_eq_true, Nat.add_sub_cancel, decide_eq_true_eq] at hp ⊢
        exact ⟨hp.1, by omega, hp.2.2.1, ih.2 ps hp.2.2.2.1, hp.2.2.2.2⟩
    exact ⟨key, lift (d + 1) key⟩
theorem all_mono {d e : Nat} (h : d ≤ e) {ps : List Pt} (hg : ps.all (goodP d) = true) : ps.all (goodP e) = true := by
  induction h with
  | refl => exact hg
  | step _ ih =>
    rw [List.all_eq_true] at ih ⊢
    exact fun p hp => (good_mono _).1 p (ih p hp)
def ovs (signs : List (List Nat)) : Prop := ∀ s ∈ signs, overB s LIT 1 6 = true ∧ overB s LIT 0 3 = true
theorem Tm.all {signs : List (List Nat)} {most : Nat} {ps : List Pt} (hs : ovs signs) (h : Tm signs most ps) : ps.all (goodP 2) = true := by
  obtain ⟨d, k, h1, h2, h3, hg⟩ := h.gen
  obtain ⟨o1, o2, o3⟩ := ABCE_ok k
  exact all_mono h2 (hg.good hs o1 o2 (by omega))
theorem Tm.names {signs : List (List Nat)} {most : Nat} {ps : List Pt} (h : Tm signs most ps) : (LW.names ps).Sublist ABCE := by
  obtain ⟨d, k, h1, h2, h3, hg⟩ := h.gen
  exact hg.names.trans (List.take_sublist k ABCE)
theorem Tm.len {signs : List (List Nat)} {most : Nat} {ps : List Pt} (h : Tm signs most ps) : ps.length ≤ most ∧ ps.length ≤ 4 := by
  obtain ⟨d, k, h1, h2, h3, hg⟩ := h.gen
  have := hg.length
  rw [List.length_take] at this
  have : ABCE.length = 4 := rfl
  omega
theorem Tm.goodPs {signs : List (List Nat)} {most : Nat} {ps : List Pt} (hs : ovs signs) (h : Tm signs most ps) : goodPs 2 ps = true := by
  have ha := h.all hs
  have hn := h.names.nodup (by decide)
  have hl := h.len
  have hp := List.length_pos_iff.mpr h.pos
  simp only [LW.goodPs, goodAll_all, ha, (distinct_nodup _).mpr hn, Bool.and_true, Bool.and_eq_true, decide_eq_true_eq]
  omega
theorem Tm.tmpl {signs : List (List Nat)} {most : Nat} {ps : List Pt} (hs : ovs signs) (h : Tm signs most ps) : tmplB ps = true := by
  have hg := (good_mono 2).2 ps (h.goodPs hs)
  have hc := h.cnt
  simp only [tmplB, hg, Bool.true_and, Bool.and_eq_true, decide_eq_true_eq]
  omega
/-! ### calls of one and two names -/
theorem call1 {F : List Sl → Res} {i : Nat} {ds : DS} {a d : D} (h : ds[i]? = some (.val a)) (e : F [.val a] = .ret d []) : fCallF F (aaVal (vGet i) aaNil) ds = .ok (d, ds) := by
  refine fCallF_ret (l := [.v a]) (as := [.val a]) (cs := []) ?_ rfl (by simp [idxOf]) e
  simp only [aaVal, aaNil, vGet, h, R.bind_ok]
theorem call2 {F : List Sl → Res} {i j : Nat} {ds : DS} {a b d : D} (h : ds[i]? = some (.val a)) (k : ds[j]? = some (.val b)) (e : F [.val a, .val b] = .ret d []) : fCallF F (aaVal (vGet i) (aaVal (vGet j) aaNil)) ds = .ok (d, ds) := by
  refine fCallF_ret (l := [.v a, .v b]) (as := [.val a, .val b]) (cs := []) ?_ rfl (by simp [idxOf]) e
  simp only [aaVal, aaNil, vGet, h, k, R.bind_ok]
theorem isnot_true (b : Bool) : dIsNot (.bl b) (.bl true) = some (.bl (!b)) := by cases b <;> rfl
/-! ### the law -/
def sg06 : List (List Nat) := [[97], [44], [97, 98]]
theorem sg06_ok : ovs sg06 := by
  intro s hs
  simp only [sg06, List.mem_cons, List.not_mem_nil, or_false] at hs
  rcases hs with rfl | rfl | rfl <;> decide
def encN : Option Nat → D
  | none => .non
  | some n => .int n
def lessN (b : Option Nat) (w : Nat) : Bool := match b with
  | none => true
  | some n => decide (w < n)
section
variable {fuel : Nat} {ns : List Int} {t o : List Pt}
/-- what is known of the two templates -/
structure Two (t o : List Pt) : Prop where
  dt : DT 3 8 t o
  tt : tmplB t = true
  to_ : tmplB o = true
theorem Two.ht (h : Two t o) : hgs t ≤ 4 ∧ hgs o ≤ 4 := ⟨(good_hgs 3).1 t h.dt.gt, (good_hgs 3).1 o h.dt.go⟩
theorem Two.fillT (h : Two t o) {r : Rec} (hr : FitR t r) : F_law_fill 8 fuel [.val (.tup (encs t)), .val (.dic 0 (encR r))] = .ret (.str (fillPs t r)) [] := law_fill_spec fuel 8 3 t r (by decide) h.dt.gt hr (by have := h.ht; omega)
theorem Two.fillO (h : Two t o) {r : Rec} (hr : FitR t r) : F_law_fill 8 fuel [.val (.tup (encs o)), .val (.dic 0 (encR r))] = .ret (.str (fillPs o r)) [] := law_fill_spec fuel 8 3 o r (by decide) h.dt.go (fit_alk 8 t o h.dt.al r hr) (by have := h.ht; omega)
theorem Two.size (h : Two t o) {r : Rec} (hr : GenR t r) : F_law_size 8 fuel [.val (.dic 0 (encR r))] = .ret (.int (rvR r)) [] := law_size_spec fuel 8 3 t r h.dt.gt hr (by have := h.ht; omega)
theorem f0_step (h : Two t o) (tw x5 x7 x8 : Sl) (b : Option Nat) (r : Rec) (hr : GenR t r) : B_law_f0 fuel [.val (.scr ns), tw, .val (.tup (encs t)), .val (.tup (encs o)), .val (encO r), x5, .val (encN b), x7, x8]
    = .nx [.val (.scr ns), tw, .val (.tup (encs t)), .val (.tup (encs o)), .val (encO r), x5, .val (encN (if fillPs t r ≠ fillPs o r ∧ lessN b (rvR r) = true then some (rvR r) else b)), x7, x8] := by
  have hf := gen_fit (hgs t) 3 t r (Nat.le_refl _) h.dt.gt hr
  have e1 := call2 (F := F_law_fill 8 fuel) (i := 2) (j := 4) (ds := [.val (.scr ns), tw, .val (.tup (encs t)), .val (.tup (encs o)), .val (encO r), x5, .val (encN b), x7, x8]) rfl rfl (h.fillT hf)
  have e2 := call2 (F := F_law_fill 8 fuel) (i := 3) (j := 4) (ds := [.val (.scr ns), tw, .val (.tup (encs t)), .val (.tup (encs o)), .val (encO r), x5, .val (encN b), x7, x8]) rfl rfl (h.fillO hf)
  have e3 := call1 (F := F_law_size 8 fuel) (i := 4) (ds := [.val (.scr ns), tw, .val (.tup (encs t)), .val (.tup (encs o)), .val (encO r), x5, .val (encN b), x7, x8]) rfl (h.size hr)
  have t1 : toB (fBin dNe (fCallF ((F_law_fill 8) fuel) (aaVal (vGet 2) (aaVal (vGet 4) (aaNil)))) (fCallF ((F_law_fill 8) fuel) (aaVal (vGet 3) (aaVal (vGet 4) (aaNil))))) [.val (.scr ns), tw, .val (.tup (encs t)), .val (.tup (encs o)), .val (encO r), x5, .val (encN b), x7, x8] = .ok (!decide (fillPs t r = fillPs o r), [.val (.scr ns), tw, .val (.tup (encs t)), .val (.tup (encs o)), .val (encO r), x5, .val (encN b), x7, x8]) := by
    rw [toB, fBin, e1]
    simp only [R.bind_ok]
    rw [e2]
    simp only [R.bind_ok, ne_str, lft_some]
  have t2 : bOr (toB (fBin dIs (vGet 6) (vC .non))) (toB (fBin dLt (fCallF ((F_law_size 8) fuel) (aaVal (vGet 4) (aaNil))) (vGet 6))) [.val (.scr ns), tw, .val (.tup (encs t)), .val (.tup (encs o)), .val (encO r), x5, .val (encN b), x7, x8] = .ok (lessN b (rvR r), [.val (.scr ns), tw, .val (.tup (encs t)), .val (.tup (encs o)), .val (encO r), x5, .val (encN b), x7, x8]) := by
    cases b with
    | none => simp only [bOr, toB, fBin, vGet, vC, List.getElem?_cons_succ, List.getElem?_cons_zero, R.bind_ok, encN, dIs, isNonD, lft_some, if_true, lessN]
    | some n =>
      have lt : decide ((rvR r : Int) < (n : Int)) = decide (rvR r < n) := by
        by_cases h : rvR r < n
        · rw [decide_eq_true h, decide_eq_true (by omega)]
        · rw [decide_eq_false h, decide_eq_false (by omega)]
      unfold bOr
      simp only [toB, fBin, vC, R.bind_ok]
      simp only [vGet, List.getElem?_cons_succ, List.getElem?_cons_zero, R.bind_ok, encN, dIs, isNonD, lft_some, Bool.false_eq_true, if_false]
      simp only [encN, vGet] at e3
      rw [e3]
      simp only [R.bind_ok, List.getElem?_cons_succ, List.getElem?_cons_zero, dLt, lft_some, lt, lessN]
  by_cases hfd : fillPs t r = fillPs o r
  · rw [decide_eq_true hfd] at t1
    rw [if_neg (fun z => z.1 hfd), B_law_f0, sIf_f (ds' := [.val (.scr ns), tw, .val (.tup (encs t)), .val (.tup (encs o)), .val (encO r), x5, .val (encN b), x7, x8])]
    · rfl
    · unfold bAnd; rw [t1]; rfl
  · rw [decide_eq_false hfd] at t1
    cases hb : lessN b (rvR r) with
    | false =>
      rw [hb] at t2
      rw [if_neg (fun z => by cases z.2), B_law_f0, sIf_f (ds' := [.val (.scr ns), tw, .val (.tup (encs t)), .val (.tup (encs o)), .val (encO r), x5, .val (encN b), x7, x8])]
      · rfl
      · unfold bAnd; rw [t1]; simp only [R.bind_ok, Bool.not_false, if_true]; exact t2
    | true =>
      rw [hb] at t2
      rw [if_pos ⟨hfd, rfl⟩, B_law_f0, sIf_t (ds' := [.val (.scr ns), tw, .val (.tup (encs t)), .val (.tup (encs o)), .val (encO r), x5, .val (encN b), x7, x8])]
      · unfold sAsg; rw [e3]; rfl
      · unfold bAnd; rw [t1]; simp only [R.bind_ok, Bool.not_false, if_true]; exact t2
theorem f0_loop (h : Two t o) (tw x5 x7 x8 : Sl) : ∀ (L : List Rec), (∀ r ∈ L, GenR t r) → ∀ (b : Option Nat) (x4 : Sl), ∃ (b' : Option Nat) (y4 : Sl), forD (gSet 4) (B_law_f0 fuel) (L.map encO) [.val (.scr ns), tw, .val (.tup (encs t)), .val (.tup (encs o)), x4, x5, .val (encN b), x7, x8] = .nx [.val (.scr ns), tw, .val (.tup (encs t)), .val (.tup (encs o)), y4, x5, .val (encN b'), x7, x8]
    ∧ ∀ n, b' = some n → b = some n ∨ ∃ r ∈ L, fillPs t r ≠ fillPs o r ∧ n = rvR r
  | [], _, b, x4 => ⟨b, x4, by simp [forD], fun n e => .inl e⟩
  | r :: L, hL, b, x4 => by
    have e1 := f0_step (fuel := fuel) (ns := ns) h tw x5 x7 x8 b r (hL r List.mem_cons_self)
    obtain ⟨b', y4, e2, h2⟩ := f0_loop h tw x5 x7 x8 L (fun z hz => hL z (List.mem_cons_of_mem _ hz)) (if fillPs t r ≠ fillPs o r ∧ lessN b (rvR r) = true then some (rvR r) else b) (.val (encO r))
    refine ⟨b', y4, ?_, fun n e => ?_⟩
    · rw [List.map_cons, forD]
      simp only [gSet_app, List.set_cons_succ, List.set_cons_zero, e1, loopK]
      exact e2
    · rcases h2 n e with h3 | ⟨z, hz, k⟩
      · by_cases hc : fillPs t r ≠ fillPs o r ∧ lessN b (rvR r) = true
        · rw [if_pos hc] at h3
          cases h3
          exact .inr ⟨r, List.mem_cons_self, hc.1, rfl⟩
        · rw [if_neg hc] at h3
          exact .inl h3
      · exact .inr ⟨z, List.mem_cons_of_mem _ hz, k⟩
theorem six_recs (hg : goodPs 2 t = true) (hh : hgs t ≤ 3) (x3 x4 x5 x6 x7 : Sl) : ∀ (its : List D) (tw : Sl), Tw tw → ∃ (rs : List Rec) (tw' : Sl), lcD [8] (gSet 8) bYes (fCallF ((F_law_record 8) fuel) (aaVal (vGet 0) (aaOwn 1 (aaVal (vGet 2) (aaNil))))) its [.val (.scr ns), tw, .val (.tup (encs t)), x3, x4, x5, x6, x7, .emp] = .ok (rs.map encO, [.val (.scr ns), tw', .val (.tup (encs t)), x3, x4, x5, x6, x7, .emp]) ∧ (∀ r ∈ rs, GenR t r) ∧ Tw tw'
  | [], tw, hw => ⟨[], tw, rfl, by simp, hw⟩
  | d :: its, tw, hw => by
    obtain ⟨q, tw1, e1, hq, hw1⟩ := rec_call (law_record_spec fuel ns 8 2 t hg (by omega)) (t := tw) (rest := [.val (.tup (encs t)), x3, x4, x5, x6, x7, .val d]) (fp := vGet 2) rfl hw
    obtain ⟨rs, tw2, e2, hr, hw2⟩ := six_recs hg hh x3 x4 x5 x6 x7 its tw1 hw1
    refine ⟨q :: rs, tw2, ?_, fun r hr' => ?_, hw2⟩
    · have hno : noOwn [8] [.val (.scr ns), tw, .val (.tup (encs t)), x3, x4, x5, x6, x7, .emp] = true := rfl
      have w : gSet 8 d (wipeD [.val (.scr ns), tw, .val (.tup (encs t)), x3, x4, x5, x6, x7, .emp] [8]) = some [.val (.scr ns), tw, .val (.tup (encs t)), x3, x4, x5, x6, x7, .val d] := rfl
      have bk : backD [8] [.val (.scr ns), tw, .val (.tup (encs t)), x3, x4, x5, x6, x7, .emp] [.val (.scr ns), tw1, .val (.tup (encs t)), x3, x4, x5, x6, x7, .val d] = [.val (.scr ns), tw1, .val (.tup (encs t)), x3, x4, x5, x6, x7, .emp] := rfl
      rw [lcD, if_pos hno, w]
      simp only [bYes, quiet, R.bind_ok, if_true, e1, bk, e2, List.map_cons, encO]
    · rcases List.mem_cons.mp hr' with rfl | hr'
      · exact hq
      · exact hr r hr'
end
theorem law_true (ns : List Int) (h : ns.length ≤ 63) : ∃ fuel cs, F_law fuel [.val (.scr ns)] = .ret (.bl true) cs := by
  obtain ⟨t, c, e1, htm, hc⟩ := law_template_spec 50 (by decide) ns (signs := sg06) (by decide) (by decide) sg06_ok 4 (by decide) (by decide) _ tw_0
  have ht := htm.tmpl sg06_ok
  have hg := htm.goodPs sg06_ok
  have hh := (good_hgs 2).1 t hg
  obtain ⟨o, c2, e2, hal, hc2⟩ := law_changed_spec 50 ns 8 2 t hg (by omega) _ hc
  have h4l : (4 : Nat) ≤ Ln := by decide
  have h3l : (3 : Nat) ≤ Ln := by decide
  have h2l : (2 : Nat) ≤ Ln := by decide
  have it := is_template_spec 50 t
  have io := is_template_spec 50 o
  rw [ht] at it
  have st1 : fCallF (F_law_template 50) (aaVal (vGet 0) (aaOwn 1 (aaVal (vC (.int 4)) (aaVal (mkLst (aCons (vC (.str [97])) (aCons (vC (.str [44])) (aCons (vC (.str [97, 98])) (aNil))))) (aaNil))))) [.val (.scr ns), .own (.l [.int 0, .int 0]), .emp, .emp, .emp, .emp, .emp, .emp, .emp] = .ok (.tup (encs t), [.val (.scr ns), .own c, .emp, .emp, .emp, .emp, .emp, .emp, .emp]) := by
    have e1' : F_law_template 50 [.val (.scr ns), .own (.l [.int 0, .int 0]), .val (.int 4), .val (.lst [.str [97], .str [44], .str [97, 98]])] = .ret (.tup (encs t)) [c] := e1
    simp [fCallF, aaVal, aaOwn, aaNil, vGet, vC, mkLst, aCons, aNil, R.bind, h3l, asOf, idxOf, e1', putCs]
  have st2 : fCallF ((F_law_changed 8) 50) (aaVal (vGet 0) (aaOwn 1 (aaVal (vGet 2) (aaNil)))) [.val (.scr ns), .own c, .val (.tup (encs t)), .emp, .emp, .emp, .emp, .emp, .emp] = .ok (.tup (encs o), [.val (.scr ns), .own c2, .val (.tup (encs t)), .emp, .emp, .emp, .emp, .emp, .emp]) := by
    simp [fCallF, aaVal, aaOwn, aaNil, vGet, R.bind, asOf, idxOf, e2, putCs]
  have A : ∀ X : DS → Out, sSeq (sSetO 1 (oLst (aCons (vC (.int 0)) (aCons (vC (.int 0)) (aNil))))) (sSeq (sAsg (fCallF (F_law_template 50) (aaVal (vGet 0) (aaOwn 1 (aaVal (vC (.int 4)) (aaVal (mkLst (aCons (vC (.str [97])) (aCons (vC (.str [44])) (aCons (vC (.str [97, 98])) (aNil))))) (aaNil)))))) (gSet 2)) (sSeq (sAsg (fCallF ((F_law_changed 8) 50) (aaVal (vGet 0) (aaOwn 1 (aaVal (vGet 2) (aaNil))))) (gSet 3)) X)) [.val (.scr ns), .emp, .emp, .emp, .emp, .emp, .emp, .emp, .emp] = X [.val (.scr ns), .own c2, .val (.tup (encs t)), .val (.tup (encs o)), .emp, .emp, .emp, .emp, .emp] := fun X => by
    rw [sSeq_nx (ds' := [.val (.scr ns), .own (.l [.int 0, .int 0]), .emp, .emp, .emp, .emp, .emp, .emp, .emp]) (by rfl),
      sSeq_nx (ds' := [.val (.scr ns), .own c, .val (.tup (encs t)), .emp, .emp, .emp, .emp, .emp, .emp]) (by unfold sAsg; rw [st1]; rfl),
      sSeq_nx (ds' := [.val (.scr ns), .own c2, .val (.tup (encs t)), .val (.tup (encs o)), .emp, .emp, .emp, .emp, .emp]) (by unfold sAsg; rw [st2]; rfl)]
  have T1 : bOr (bNot (toB (fCallF (F_is_template 50) (aaVal (vGet 2) (aaNil))))) (bNot (toB (fCallF (F_is_template 50) (aaVal (vGet 3) (aaNil))))) [.val (.scr ns), .own c2, .val (.tup (encs t)), .val (.tup (encs o)), .emp, .emp, .emp, .emp, .emp] = .ok (!tmplB o, [.val (.scr ns), .own c2, .val (.tup (encs t)), .val (.tup (encs o)), .emp, .emp, .emp, .emp, .emp]) := by
    unfold bOr bNot toB
    rw [call1 (i := 2) rfl it]
    simp only [R.bind_ok, Bool.not_true, Bool.false_eq_true, if_false]
    rw [call1 (i := 3) rfl io]
    simp only [R.bind_ok]
  refine ⟨50, [], ?_⟩
  show DL.finish [] (B_law 50 [.val (.scr ns), .emp, .emp, .emp, .emp, .emp, .emp, .emp, .emp]) = _
  rw [B_law, A]
  cases ho : tmplB o with
  | false =>
    rw [ho] at T1
    unfold sSeq
    rw [sIf_t T1]
    rfl
  | true =>
    rw [ho] at T1
    have two : Two t o := ⟨⟨tmpl_good ht, tmpl_good ho, hal 8 (by omega), Alk.refl 8 2 t hg (by omega), Alk.refl 8 3 o (tmpl_good ho) (by have := (good_hgs 3).1 o (tmpl_good ho); omega)⟩, ht, ho⟩
    have hho : hgs o ≤ 3 := alk_hgs 3 t o (hal 3 hh)
    have al := alike_spec 50 ht ho two.dt.al
    have dTT := difference_spec (fuel := 50) ht ht two.dt.tt hh fun x hx => by have := two.dt.self.shape hx; exact ⟨this.1, this.1⟩
    have dTO := difference_spec (fuel := 50) ht ho two.dt.al hh fun x hx => by have := two.dt.shape hx; exact ⟨this.1, this.2.1⟩
    have dOT := difference_spec (fuel := 50) ho ht two.dt.symm.al hho fun x hx => by have := two.dt.symm.shape hx; exact ⟨this.1, this.2.1⟩
    have dTT' : diffC t t = .non := by unfold diffC; rw [best_self]
    rw [dTT'] at dTT
    have T2 : bOr (toB (fBin dIsNot (fCallF (F_alike 50) (aaVal (vGet 2) (aaVal (vGet 3) (aaNil)))) (vC (.bl true)))) (toB (fBin dIsNot (fCallF (F_difference 50) (aaVal (vGet 2) (aaVal (vGet 2) (aaNil)))) (vC .non))) [.val (.scr ns), .own c2, .val (.tup (encs t)), .val (.tup (encs o)), .emp, .emp, .emp, .emp, .emp] = .ok (false, [.val (.scr ns), .own c2, .val (.tup (encs t)), .val (.tup (encs o)), .emp, .emp, .emp, .emp, .emp]) := by
      rw [bOr, toB, fBin, call2 (i := 2) (j := 3) rfl rfl al]
      simp only [R.bind_ok, vC, isnot_true, lft_some, Bool.not_true, Bool.false_eq_true, if_false]
      rw [toB, fBin, call2 (i := 2) (j := 2) rfl rfl dTT]
      simp only [R.bind_ok, vC, dIsNot, isNonD, lft_some, Bool.not_true]
    have S5 : sPar 5 6 (aCons (fCallF (F_difference 50) (aaVal (vGet 2) (aaVal (vGet 3) (aaNil)))) (aCons (vC .non) (aNil))) [.val (.scr ns), .own c2, .val (.tup (encs t)), .val (.tup (encs o)), .emp, .emp, .emp, .emp, .emp] = .nx [.val (.scr ns), .own c2, .val (.tup (encs t)), .val (.tup (encs o)), .emp, .val (diffC t o), .val (encN none), .emp, .emp] := by
      rw [sPar, aCons, call2 (i := 2) (j := 3) rfl rfl dTO]
      rfl
    obtain ⟨L, eL, hLl, hL⟩ := law_records_spec 50 (Wd := [[97], [98]]) (most := 300) (by decide) (by decide) (by decide) 8 2 t hg (by omega)
    have hLg : ∀ r ∈ L, GenR t r := fun r hr => sm_gen (fun w hw => by
      simp only [List.mem_cons, List.not_mem_nil, or_false] at hw
      rcases hw with rfl | rfl <;> decide) (hgs t) t r (Nat.le_refl _) (hL r hr)
    have hLi : ∀ r ∈ L, InR W1L M2 t (look (.obj r)) := fun r hr => InR.weak (fun s hs => by
      simp only [List.mem_cons, List.not_mem_nil, or_false] at hs
      rcases hs with rfl | rfl <;> rfl) (fun _ h => h) (hgs t) t _ (Nat.le_refl _) (sm_in (hgs t) 2 t r (Nat.le_refl _) hg (hL r hr))
    have hLf : ∀ r ∈ L, FitR t r := fun r hr => gen_fit (hgs t) 2 t r (Nat.le_refl _) hg (hLg r hr)
    obtain ⟨b, y4, ef, hb⟩ := f0_loop (fuel := 50) (ns := ns) two (.own c2) (.val (diffC t o)) .emp .emp L hLg none .emp
    have hb : ∀ n, b = some n → ∃ r ∈ L, fillPs t r ≠ fillPs o r ∧ n = rvR r := fun n e => (hb n e).elim (fun z => by cases z) id
    have S6 : sFor (iSeq (fCallF ((F_law_records 8) 50) (aaVal (vGet 2) (aaVal (mkLst (aCons (vC (.str [97])) (aCons (vC (.str [98])) (aNil)))) (aaVal (vC (.int 300)) (aaNil)))))) (gSet 4) (B_law_f0 50) [.val (.scr ns), .own c2, .val (.tup (encs t)), .val (.tup (encs o)), .emp, .val (diffC t o), .val (encN none), .emp, .emp] = .nx [.val (.scr ns), .own c2, .val (.tup (encs t)), .val (.tup (encs o)), y4, .val (diffC t o), .val (encN b), .emp, .emp] := by
      have eL' : F_law_records 8 50 [.val (.tup (encs t)), .val (.lst [.str [97], .str [98]]), .val (.int 300)] = .ret (.lst (L.map encO)) [] := eL
      have h2' : ([.str [97], .str [98]] : List D).length ≤ Ln := by show 2 ≤ Ln; decide
      unfold sFor
      simp only [iSeq, fCallF, aaVal, aaNil, vGet, vC, mkLst, aCons, aNil, List.getElem?_cons_succ, List.getElem?_cons_zero, R.bind_ok, h2', if_true, asOf, idxOf, Option.map_some, eL', List.nodup_nil, putCs, toOut_ok]
      exact ef
    have nn : ∀ x : Nat × Rec, (dIs (.dic 0 (encR x.2)) .non : Option D) = some (.bl false) := fun _ => rfl
    have nv : (dIs .non .non : Option D) = some (.bl true) := rfl
    have T7 : toB (fBin dNe (fBin dIs (fCallF (F_difference 50) (aaVal (vGet 3) (aaVal (vGet 2) (aaNil)))) (vC .non)) (fBin dIs (vGet 5) (vC .non))) [.val (.scr ns), .own c2, .val (.tup (encs t)), .val (.tup (encs o)), y4, .val (diffC t o), .val (encN b), .emp, .emp] = .ok (false, [.val (.scr ns), .own c2, .val (.tup (encs t)), .val (.tup (encs o)), y4, .val (diffC t o), .val (encN b), .emp, .emp]) := by
      rw [toB, fBin, fBin, call2 (i := 3) (j := 2) rfl rfl dOT]
      simp only [R.bind_ok, vC, fBin, vGet, List.getElem?_cons_succ, List.getElem?_cons_zero]
      rcases two.dt.both with ⟨b1, b2⟩ | ⟨y, z, b1, b2, _⟩
      · simp only [diffC, b1, b2, nv, lft_some, R.bind_ok]; rfl
      · simp only [diffC, b1, b2, nn, lft_some, R.bind_ok]; rfl
    rw [sSeq_nx (ds' := [.val (.scr ns), .own c2, .val (.tup (encs t)), .val (.tup (encs o)), .emp, .emp, .emp, .emp, .emp]) (by rw [sIf_f T1]; rfl),
      sSeq_nx (ds' := [.val (.scr ns), .own c2, .val (.tup (encs t)), .val (.tup (encs o)), .emp, .emp, .emp, .emp, .emp]) (by rw [sIf_f T2]; rfl),
      sSeq_nx S5, sSeq_nx S6,
      sSeq_nx (ds' := [.val (.scr ns), .own c2, .val (.tup (encs t)), .val (.tup (encs o)), y4, .val (diffC t o), .val (encN b), .emp, .emp]) (by rw [sIf_f T7]; rfl)]
    cases hbc : bestC t o with
    | none =>
      have dv : diffC t o = .non := by unfold diffC; rw [hbc]
      rw [dv]
      have bn : b = none := by
        cases hb2 : b with
        | none => rfl
        | some n =>
          obtain ⟨r, hr, hne, _⟩ := hb n hb2
          exact absurd (two.dt.nn hbc (hLf r hr)) hne
      subst bn
      have T8 : toB (fBin dIs (vGet 5) (vC .non)) [.val (.scr ns), .own c2, .val (.tup (encs t)), .val (.tup (encs o)), y4, .val .non, .val (encN none), .emp, .emp] = .ok (true, [.val (.scr ns), .own c2, .val (.tup (encs t)), .val (.tup (encs o)), y4, .val .non, .val (encN none), .emp, .emp]) := rfl
      obtain ⟨rs, tw', er, hrs, _⟩ := six_recs (fuel := 50) (ns := ns) hg hh (.val (.tup (encs o))) y4 (.val .non) (.val (encN none)) .emp (rngD 0 6) (.own c2) hc2
      have S1 : sSetL 7 (oLc [8] (iRng1D (aCons (vC (.int 6)) (aNil))) (gSet 8) (bYes) (fCallF ((F_law_record 8) 50) (aaVal (vGet 0) (aaOwn 1 (aaVal (vGet 2) (aaNil)))))) [.val (.scr ns), .own c2, .val (.tup (encs t)), .val (.tup (encs o)), y4, .val .non, .val (encN none), .emp, .emp] = .nx [.val (.scr ns), tw', .val (.tup (encs t)), .val (.tup (encs o)), y4, .val .non, .val (encN none), .val (.lst (rs.map encO)), .emp] := by
        have h6 : -(2 ^ 62) ≤ (6 : Int) ∧ (6 : Int) ≤ Ln := by decide
        simp only [sSetL, oLc, iRng1D, aCons, aNil, vC, R.bind_ok]
        rw [if_pos h6]
        simp only [R.bind_ok, show Int.toNat 6 = 6 from rfl, er, toOut_ok, dOf, List.set_cons_succ, List.set_cons_zero]
      have T9 : toB (fBin dIsNot (vGet 6) (vC .non)) [.val (.scr ns), tw', .val (.tup (encs t)), .val (.tup (encs o)), y4, .val .non, .val (encN none), .val (.lst (rs.map encO)), .emp] = .ok (false, [.val (.scr ns), tw', .val (.tup (encs t)), .val (.tup (encs o)), y4, .val .non, .val (encN none), .val (.lst (rs.map encO)), .emp]) := rfl
      have hy4 : y4 = .emp ∨ ∃ r ∈ L, y4 = .val (encO r) := by
        have key : ∀ (M : List Rec) (x4 : Sl) (b0 : Option Nat) (b1 : Option Nat) (z4 : Sl), (∀ r ∈ M, GenR t r) → forD (gSet 4) (B_law_f0 50) (M.map encO) [.val (.scr ns), .own c2, .val (.tup (encs t)), .val (.tup (encs o)), x4, .val (diffC t o), .val (encN b0), .emp, .emp] = .nx [.val (.scr ns), .own c2, .val (.tup (encs t)), .val (.tup (encs o)), z4, .val (diffC t o), .val (encN b1), .emp, .emp] → z4 = x4 ∨ ∃ r ∈ M, z4 = .val (encO r) := fun M => by
          induction M with
          | nil => intro x4 b0 b1 z4 _ e; simp only [List.map_nil, forD, Out.nx.injEq, List.cons.injEq] at e; exact .inl e.2.2.2.2.1.symm
          | cons r M ih =>
            intro x4 b0 b1 z4 hM e
            rw [List.map_cons, forD] at e
            simp only [gSet_app, List.set_cons_succ, List.set_cons_zero, f0_step two _ _ _ _ b0 r (hM r List.mem_cons_self), loopK] at e
            rcases ih _ _ _ _ (fun z hz => hM z (List.mem_cons_of_mem _ hz)) e with rfl | ⟨z, hz, k⟩
            · exact .inr ⟨r, List.mem_cons_self, rfl⟩
            · exact .inr ⟨z, List.mem_cons_of_mem _ hz, k⟩
        exact key L .emp none _ _ hLg ef
      have hno : noOwn [4] [.val (.scr ns), tw', .val (.tup (encs t)), .val (.tup (encs o)), y4, .val .non, .val (encN none), .val (.lst (rs.map encO)), .emp] = true := by
        rcases hy4 with rfl | ⟨r, _, rfl⟩ <;> rfl
      have e4 : lcD [4] (gSet 4) bYes (fBin dEq (fCallF ((F_law_fill 8) 50) (aaVal (vGet 2) (aaVal (vGet 4) (aaNil)))) (fCallF ((F_law_fill 8) 50) (aaVal (vGet 3) (aaVal (vGet 4) (aaNil))))) (rs.map encO) [.val (.scr ns), tw', .val (.tup (encs t)), .val (.tup (encs o)), y4, .val .non, .val (encN none), .val (.lst (rs.map encO)), .emp] = .ok (rs.map fun _ => D.bl true, [.val (.scr ns), tw', .val (.tup (encs t)), .val (.tup (encs o)), y4, .val .non, .val (encN none), .val (.lst (rs.map encO)), .emp]) := by
        refine lcD_map encO _ hno rs fun r hr => ⟨[.val (.scr ns), tw', .val (.tup (encs t)), .val (.tup (encs o)), .val (encO r), .val .non, .val (encN none), .val (.lst (rs.map encO)), .emp], [.val (.scr ns), tw', .val (.tup (encs t)), .val (.tup (encs o)), .val (encO r), .val .non, .val (encN none), .val (.lst (rs.map encO)), .emp], rfl, ?_, rfl⟩
        have hf := gen_fit (hgs t) 2 t r (Nat.le_refl _) hg (hrs r hr)
        rw [fBin, call2 (i := 2) (j := 4) rfl rfl (two.fillT hf)]
        simp only [R.bind_ok]
        rw [call2 (i := 3) (j := 4) rfl rfl (two.fillO hf)]
        simp only [R.bind_ok, eq_str, two.dt.nn hbc hf, decide_true, lft_some]
      have hbm := bools_map (fun _ : Rec => true) rs
      have al2 : dAll [.lst (rs.map fun _ => D.bl true)] = some (.bl true) := by
        unfold dAll
        simp only [hbm, Option.bind_some, Option.map_some]
        simp
      unfold sSeq
      rw [sIf_t T8, B_law_i1, sSeq_nx S1, sSeq_nx (ds' := [.val (.scr ns), tw', .val (.tup (encs t)), .val (.tup (encs o)), y4, .val .non, .val (encN none), .val (.lst (rs.map encO)), .emp]) (by rw [sIf_f T9]; rfl)]
      simp only [sRet, fCall, aCons, aNil, ofO, oLc, iSeq, vGet, List.getElem?_cons_succ, List.getElem?_cons_zero, R.bind_ok, e4, dOf, lft_some, al2, toOut_ok]
      rfl
    | some y =>
      obtain ⟨hgen, hsz, hne, hmin, _⟩ := two.dt.sm hbc
      have hfit := gen_fit (hgs t) 3 t y.2 (Nat.le_refl _) two.dt.gt hgen
      obtain ⟨z, hz, hyz⟩ : ∃ z, bestC o t = some z ∧ y.1 = z.1 := by
        rcases two.dt.both with ⟨b1, _⟩ | ⟨y', z, b1, b2, e⟩
        · rw [hbc] at b1; cases b1
        · rw [hbc] at b1; cases b1; exact ⟨z, b2, e⟩
      obtain ⟨hgenz, hszz, _⟩ := two.dt.symm.sm hz
      have dv : diffC t o = .dic 0 (encR y.2) := by unfold diffC; rw [hbc]
      have dv2 : diffC o t = .dic 0 (encR z.2) := by unfold diffC; rw [hz]
      rw [dv]
      rw [dv2] at dOT
      have T8 : toB (fBin dIs (vGet 5) (vC .non)) [.val (.scr ns), .own c2, .val (.tup (encs t)), .val (.tup (encs o)), y4, .val (.dic 0 (encR y.2)), .val (encN b), .emp, .emp] = .ok (false, [.val (.scr ns), .own c2, .val (.tup (encs t)), .val (.tup (encs o)), y4, .val (.dic 0 (encR y.2)), .val (encN b), .emp, .emp]) := rfl
      have isr := is_record_spec 50 t y.2 ht hfit
      have T9 : bOr (toB (fBin dIsNot (fCallF (F_is_record 50) (aaVal (vGet 2) (aaVal (vGet 5) (aaNil)))) (vC (.bl true)))) (toB (fBin dEq (fCallF ((F_law_fill 8) 50) (aaVal (vGet 2) (aaVal (vGet 5) (aaNil)))) (fCallF ((F_law_fill 8) 50) (aaVal (vGet 3) (aaVal (vGet 5) (aaNil)))))) [.val (.scr ns), .own c2, .val (.tup (encs t)), .val (.tup (encs o)), y4, .val (.dic 0 (encR y.2)), .val (encN b), .emp, .emp] = .ok (false, [.val (.scr ns), .own c2, .val (.tup (encs t)), .val (.tup (encs o)), y4, .val (.dic 0 (encR y.2)), .val (encN b), .emp, .emp]) := by
        rw [bOr, toB, fBin, call2 (i := 2) (j := 5) rfl rfl isr]
        simp only [R.bind_ok, vC, isnot_true, lft_some, Bool.not_true, Bool.false_eq_true, if_false]
        rw [toB, fBin, call2 (i := 2) (j := 5) rfl rfl (two.fillT hfit)]
        simp only [R.bind_ok]
        rw [call2 (i := 3) (j := 5) rfl rfl (two.fillO hfit)]
        simp only [R.bind_ok, eq_str, lft_some, decide_eq_false hne]
      have T10 : toB (fBin dNe (fCallF ((F_law_size 8) 50) (aaVal (fCallF (F_difference 50) (aaVal (vGet 3) (aaVal (vGet 2) (aaNil)))) (aaNil))) (fCallF ((F_law_size 8) 50) (aaVal (vGet 5) (aaNil)))) [.val (.scr ns), .own c2, .val (.tup (encs t)), .val (.tup (encs o)), y4, .val (.dic 0 (encR y.2)), .val (encN b), .emp, .emp] = .ok (false, [.val (.scr ns), .own c2, .val (.tup (encs t)), .val (.tup (encs o)), y4, .val (.dic 0 (encR y.2)), .val (encN b), .emp, .emp]) := by
        have two' : Two o t := ⟨two.dt.symm, ho, ht⟩
        have c1 : fCallF ((F_law_size 8) 50) (aaVal (fCallF (F_difference 50) (aaVal (vGet 3) (aaVal (vGet 2) (aaNil)))) (aaNil)) [.val (.scr ns), .own c2, .val (.tup (encs t)), .val (.tup (encs o)), y4, .val (.dic 0 (encR y.2)), .val (encN b), .emp, .emp] = .ok (.int (rvR z.2), [.val (.scr ns), .own c2, .val (.tup (encs t)), .val (.tup (encs o)), y4, .val (.dic 0 (encR y.2)), .val (encN b), .emp, .emp]) := by
          refine fCallF_ret (l := [.v (.dic 0 (encR z.2))]) (as := [.val (.dic 0 (encR z.2))]) (cs := []) ?_ rfl (by simp [idxOf]) (two'.size hgenz)
          rw [aaVal, call2 (i := 3) (j := 2) rfl rfl dOT]
          rfl
        rw [toB, fBin, c1]
        simp only [R.bind_ok]
        rw [call1 (i := 5) rfl (two.size hgen)]
        have : ((rvR z.2 : Int) == (rvR y.2 : Int)) = true := by rw [hszz, hsz, hyz]; simp
        simp only [R.bind_ok, ne_int, this, Bool.not_true, lft_some]
      unfold sSeq
      rw [sIf_f T8]
      simp only [sNx]
      rw [sIf_f T9]
      simp only [sNx]
      rw [sIf_f T10]
      simp only [sNx]
      have fin : fOr (fBin dIs (vGet 6) (vC .non)) (fBin dLe (fCallF ((F_law_size 8) 50) (aaVal (vGet 5) (aaNil))) (vGet 6)) [.val (.scr ns), .own c2, .val (.tup (encs t)), .val (.tup (encs o)), y4, .val (.dic 0 (encR y.2)), .val (encN b), .emp, .emp] = .ok (.bl true, [.val (.scr ns), .own c2, .val (.tup (encs t)), .val (.tup (encs o)), y4, .val (.dic 0 (encR y.2)), .val (encN b), .emp, .emp]) := by
        cases hb2 : b with
        | none => rfl
        | some n =>
          obtain ⟨r, hr, hd, rfl⟩ := hb n hb2
          have hle := hmin r (hLf r hr) (hLi r hr) hd
          rw [fOr, fBin]
          simp only [vGet, vC, List.getElem?_cons_succ, List.getElem?_cons_zero, R.bind_ok, encN, dIs, isNonD, lft_some, Bool.false_eq_true, if_false]
          have c5 := call1 (F := F_law_size 8 50) (i := 5) (ds := [.val (.scr ns), .own c2, .val (.tup (encs t)), .val (.tup (encs o)), y4, .val (.dic 0 (encR y.2)), .val (.int (rvR r)), .emp, .emp]) rfl (two.size hgen)
          rw [fBin]
          rw [c5]
          have : (rvR y.2 : Int) ≤ (rvR r : Int) := by omega
          simp only [R.bind_ok, vGet, List.getElem?_cons_succ, List.getElem?_cons_zero, dLe, this, decide_true, lft_some]
      rw [sRet, fin]
      rfl
end LW

/-! the walk of law_k06_whole_difference, printed by gen.py -/
namespace LW
open PySem L2 DL
def top (i : Nat) : Stmt := PySem.Challenge.pw_mailmerge_k06_whole_difference.main.body.getD i (.Pass ⟨0, 0, 0, 0⟩)
abbrev S_is_over : Stmt := top 13
abbrev S_are_parts : Stmt := top 14
abbrev S_is_part : Stmt := top 15
abbrev S_inner : Stmt := top 16
abbrev S_many_parts : Stmt := top 17
abbrev S_is_template : Stmt := top 18
abbrev S_need_template : Stmt := top 19
abbrev S_is_value : Stmt := top 20
abbrev S_is_filling : Stmt := top 21
abbrev S_is_record : Stmt := top 22
abbrev S_are_alike : Stmt := top 24
abbrev S_alike : Stmt := top 25
abbrev S_with_value : Stmt := top 27
abbrev S_values_of : Stmt := top 26
abbrev S_shapes : Stmt := top 28
abbrev S_row_of : Stmt := top 29
abbrev S_worded : Stmt := top 30
abbrev S_words_for : Stmt := top 31
abbrev S_difference : Stmt := top 32
abbrev S_law_draw : Stmt := top 34
abbrev S_law_pick : Stmt := top 35
abbrev S_law_parts : Stmt := top 36
abbrev S_law_many : Stmt := top 37
abbrev S_law_template : Stmt := top 38
abbrev S_law_record : Stmt := top 39
abbrev S_law_fill : Stmt := top 40
abbrev S_law_size : Stmt := top 41
abbrev S_law_records : Stmt := top 42
abbrev S_law_changed : Stmt := top 43
abbrev S_law : Stmt := top 44
structure Txt (K : PySem.W.Frag) (mg : Str → Option Value) where
  cm : Nat → Addr
  f_is_over : Addr
  d_is_over : FuncData
  F_is_over : L2.Fun K "is_over" "is_over" S_is_over f_is_over d_is_over
  b_is_over : Binds K d_is_over ["value", "signs", "least", "most"] []
  m_is_over : mg "is_over" = some (.ref f_is_over)
  k_is_over : PySem.W.keepIn K (.ref f_is_over) = true
  f_are_parts : Addr
  d_are_parts : FuncData
  F_are_parts : L2.Fun K "are_parts" "are_parts" S_are_parts f_are_parts d_are_parts
  b_are_parts : Binds K d_are_parts ["value", "depth"] []
  m_are_parts : mg "are_parts" = some (.ref f_are_parts)
  k_are_parts : PySem.W.keepIn K (.ref f_are_parts) = true
  f_is_part : Addr
  d_is_part : FuncData
  F_is_part : L2.Fun K "is_part" "is_part" S_is_part f_is_part d_is_part
  b_is_part : Binds K d_is_part ["value", "depth"] []
  m_is_part : mg "is_part" = some (.ref f_is_part)
  k_is_part : PySem.W.keepIn K (.ref f_is_part) = true
  f_inner : Addr
  d_inner : FuncData
  F_inner : L2.Fun K "inner" "inner" S_inner f_inner d_inner
  b_inner : Binds K d_inner ["part"] []
  m_inner : mg "inner" = some (.ref f_inner)
  k_inner : PySem.W.keepIn K (.ref f_inner) = true
  f_many_parts : Addr
  d_many_parts : FuncData
  F_many_parts : L2.Fun K "many_parts" "many_parts" S_many_parts f_many_parts d_many_parts
  b_many_parts : Binds K d_many_parts ["parts"] []
  m_many_parts : mg "many_parts" = some (.ref f_many_parts)
  k_many_parts : PySem.W.keepIn K (.ref f_many_parts) = true
  f_is_template : Addr
  d_is_template : FuncData
  F_is_template : L2.Fun K "is_template" "is_template" S_is_template f_is_template d_is_template
  b_is_template : Binds K d_is_template ["value"] []
  m_is_template : mg "is_template" = some (.ref f_is_template)
  k_is_template : PySem.W.keepIn K (.ref f_is_template) = true
  f_need_template : Addr
  d_need_template : FuncData
  F_need_template : L2.Fun K "need_template" "need_template" S_need_template f_need_template d_need_template
  b_need_template : Binds K d_need_template ["value"] []
  m_need_template : mg "need_template" = some (.ref f_need_template)
  k_need_template : PySem.W.keepIn K (.ref f_need_template) = true
  f_is_value : Addr
  d_is_value : FuncData
  F_is_value : L2.Fun K "is_value" "is_value" S_is_value f_is_value d_is_value
  b_is_value : Binds K d_is_value ["part", "value"] []
  m_is_value : mg "is_value" = some (.ref f_is_value)
  k_is_value : PySem.W.keepIn K (.ref f_is_value) = true
  f_is_filling : Addr
  d_is_filling : FuncData
  F_is_filling : L2.Fun K "is_filling" "is_filling" S_is_filling f_is_filling d_is_filling
  b_is_filling : Binds K d_is_filling ["parts", "value"] []
  m_is_filling : mg "is_filling" = some (.ref f_is_filling)
  k_is_filling : PySem.W.keepIn K (.ref f_is_filling) = true
  f_is_record : Addr
  d_is_record : FuncData
  F_is_record : L2.Fun K "is_record" "is_record" S_is_record f_is_record d_is_record
  b_is_record : Binds K d_is_record ["template", "value"] []
  m_is_record : mg "is_record" = some (.ref f_is_record)
  k_is_record : PySem.W.keepIn K (.ref f_is_record) = true
  f_are_alike : Addr
  d_are_alike : FuncData
  F_are_alike : L2.Fun K "are_alike" "are_alike" S_are_alike f_are_alike d_are_alike
  b_are_alike : Binds K d_are_alike ["parts", "others"] []
  m_are_alike : mg "are_alike" = some (.ref f_are_alike)
  k_are_alike : PySem.W.keepIn K (.ref f_are_alike) = true
  f_alike : Addr
  d_alike : FuncData
  F_alike : L2.Fun K "alike" "alike" S_alike f_alike d_alike
  b_alike : Binds K d_alike ["template", "other"] []
  m_alike : mg "alike" = some (.ref f_alike)
  k_alike : PySem.W.keepIn K (.ref f_alike) = true
  f_with_value : Addr
  d_with_value : FuncData
  F_with_value : L2.Fun K "with_value" "with_value" S_with_value f_with_value d_with_value
  b_with_value : Binds K d_with_value ["record", "name", "value"] []
  m_with_value : mg "with_value" = some (.ref f_with_value)
  k_with_value : PySem.W.keepIn K (.ref f_with_value) = true
  f_values_of : Addr
  d_values_of : FuncData
  F_values_of : L2.Fun K "values_of" "values_of" S_values_of f_values_of d_values_of
  b_values_of : Binds K d_values_of ["part"] []
  m_values_of : mg "values_of" = some (.ref f_values_of)
  k_values_of : PySem.W.keepIn K (.ref f_values_of) = true
  f_shapes : Addr
  d_shapes : FuncData
  F_shapes : L2.Fun K "shapes" "shapes" S_shapes f_shapes d_shapes
  b_shapes : Binds K d_shapes ["parts"] []
  m_shapes : mg "shapes" = some (.ref f_shapes)
  k_shapes : PySem.W.keepIn K (.ref f_shapes) = true
  f_row_of : Addr
  d_row_of : FuncData
  F_row_of : L2.Fun K "row_of" "row_of" S_row_of f_row_of d_row_of
  b_row_of : Binds K d_row_of ["parts", "record", "path"] []
  m_row_of : mg "row_of" = some (.ref f_row_of)
  k_row_of : PySem.W.keepIn K (.ref f_row_of) = true
  f_worded : Addr
  d_worded : FuncData
  F_worded : L2.Fun K "worded" "worded" S_worded f_worded d_worded
  b_worded : Binds K d_worded ["parts", "record", "path", "words"] []
  m_worded : mg "worded" = some (.ref f_worded)
  k_worded : PySem.W.keepIn K (.ref f_worded) = true
  f_words_for : Addr
  d_words_for : FuncData
  F_words_for : L2.Fun K "words_for" "words_for" S_words_for f_words_for d_words_for
  b_words_for : Binds K d_words_for ["one", "other"] []
  m_words_for : mg "words_for" = some (.ref f_words_for)
  k_words_for : PySem.W.keepIn K (.ref f_words_for) = true
  f_difference : Addr
  d_difference : FuncData
  F_difference : L2.Fun K "difference" "difference" S_difference f_difference d_difference
  b_difference : Binds K d_difference ["template", "other"] []
  m_difference : mg "difference" = some (.ref f_difference)
  k_difference : PySem.W.keepIn K (.ref f_difference) = true
  f__law_draw : Addr
  d__law_draw : FuncData
  F__law_draw : L2.Fun K "_law_draw" "_law_draw" S_law_draw f__law_draw d__law_draw
  b__law_draw : Binds K d__law_draw ["_law_script", "_law_town", "_law_many_here"] []
  m__law_draw : mg "_law_draw" = some (.ref f__law_draw)
  k__law_draw : PySem.W.keepIn K (.ref f__law_draw) = true
  f__law_pick : Addr
  d__law_pick : FuncData
  F__law_pick : L2.Fun K "_law_pick" "_law_pick" S_law_pick f__law_pick d__law_pick
  b__law_pick : Binds K d__law_pick ["_law_script", "_law_town", "_law_some"] []
  m__law_pick : mg "_law_pick" = some (.ref f__law_pick)
  k__law_pick : PySem.W.keepIn K (.ref f__law_pick) = true
  f__law_parts : Addr
  d__law_parts : FuncData
  F__law_parts : L2.Fun K "_law_parts" "_law_parts" S_law_parts f__law_parts d__law_parts
  b__law_parts : Binds K d__law_parts ["_law_script", "_law_town", "_law_depth", "_law_most", "_law_signs"] []
  m__law_parts : mg "_law_parts" = some (.ref f__law_parts)
  k__law_parts : PySem.W.keepIn K (.ref f__law_parts) = true
  f__law_many : Addr
  d__law_many : FuncData
  F__law_many : L2.Fun K "_law_many" "_law_many" S_law_many f__law_many d__law_many
  b__law_many : Binds K d__law_many ["_law_parts_here"] []
  m__law_many : mg "_law_many" = some (.ref f__law_many)
  k__law_many : PySem.W.keepIn K (.ref f__law_many) = true
  f__law_template : Addr
  d__law_template : FuncData
  F__law_template : L2.Fun K "_law_template" "_law_template" S_law_template f__law_template d__law_template
  b__law_template : Binds K d__law_template ["_law_script", "_law_town", "_law_most", "_law_signs"] []
  m__law_template : mg "_law_template" = some (.ref f__law_template)
  k__law_template : PySem.W.keepIn K (.ref f__law_template) = true
  f__law_record : Addr
  d__law_record : FuncData
  F__law_record : L2.Fun K "_law_record" "_law_record" S_law_record f__law_record d__law_record
  b__law_record : Binds K d__law_record ["_law_script", "_law_town", "_law_parts_here"] []
  m__law_record : mg "_law_record" = some (.ref f__law_record)
  k__law_record : PySem.W.keepIn K (.ref f__law_record) = true
  f__law_fill : Addr
  d__law_fill : FuncData
  F__law_fill : L2.Fun K "_law_fill" "_law_fill" S_law_fill f__law_fill d__law_fill
  b__law_fill : Binds K d__law_fill ["_law_parts_here", "_law_record_here"] []
  m__law_fill : mg "_law_fill" = some (.ref f__law_fill)
  k__law_fill : PySem.W.keepIn K (.ref f__law_fill) = true
  f__law_size : Addr
  d__law_size : FuncData
  F__law_size : L2.Fun K "_law_size" "_law_size" S_law_size f__law_size d__law_size
  b__law_size : Binds K d__law_size ["_law_record_here"] []
  m__law_size : mg "_law_size" = some (.ref f__law_size)
  k__law_size : PySem.W.keepIn K (.ref f__law_size) = true
  f__law_records : Addr
  d__law_records : FuncData
  F__law_records : L2.Fun K "_law_records" "_law_records" S_law_records f__law_records d__law_records
  b__law_records : Binds K d__law_records ["_law_parts_here", "_law_words", "_law_most"] []
  m__law_records : mg "_law_records" = some (.ref f__law_records)
  k__law_records : PySem.W.keepIn K (.ref f__law_records) = true
  f__law_changed : Addr
  d__law_changed : FuncData
  F__law_changed : L2.Fun K "_law_changed" "_law_changed" S_law_changed f__law_changed d__law_changed
  b__law_changed : Binds K d__law_changed ["_law_script", "_law_town", "_law_parts_here"] []
  m__law_changed : mg "_law_changed" = some (.ref f__law_changed)
  k__law_changed : PySem.W.keepIn K (.ref f__law_changed) = true
  f_law : Addr
  d_law : FuncData
  F_law : L2.Fun K "law" "law" S_law f_law d_law
  b_law : Binds K d_law ["_law_script"] []
  m_law : mg "law" = some (.ref f_law)
  k_law : PySem.W.keepIn K (.ref f_law) = true
  z_all : mg "all" = none
  z_any : mg "any" = none
  z_dict : mg "dict" = none
  z_enumerate : mg "enumerate" = none
  z_isinstance : mg "isinstance" = none
  z_len : mg "len" = none
  z_list : mg "list" = none
  z_range : mg "range" = none
  z_set : mg "set" = none
  z_sorted : mg "sorted" = none
  z_str : mg "str" = none
  z_sum : mg "sum" = none
  z_tuple : mg "tuple" = none
  z_zip : mg "zip" = none
  t_ALL_PARTS : Tok
  g_ALL_PARTS : mg "ALL_PARTS" = some (.int 12 t_ALL_PARTS)
  t_DEPTH : Tok
  g_DEPTH : mg "DEPTH" = some (.int 3 t_DEPTH)
  t_ITEMS : Tok
  g_ITEMS : mg "ITEMS" = some (.int 4 t_ITEMS)
  t_LETTERS : Tok
  g_LETTERS : mg "LETTERS" = some (.str "abcdefghijklmnopqrstuvwxyz" t_LETTERS)
  t_LITERAL : Tok
  g_LITERAL : mg "LITERAL" = some (.str "abcdefghijklmnopqrstuvwxyz .,:-/" t_LITERAL)
  t_PARTS : Tok
  g_PARTS : mg "PARTS" = some (.int 6 t_PARTS)
  t_SECTIONS : Tok
  g_SECTIONS : mg "SECTIONS" = some (.int 4 t_SECTIONS)
  t_WORD : Tok
  g_WORD : mg "WORD" = some (.int 8 t_WORD)
  x_InvalidTemplate : ExcK K mg "InvalidTemplate" (cm 0)
  x_NotAlike : ExcK K mg "NotAlike" (cm 2)
theorem bt_all : bootBuiltins "all" = some (.builtin "all") := by first | rfl | kernel_rfl
theorem bt_any : bootBuiltins "any" = some (.builtin "any") := by first | rfl | kernel_rfl
theorem bt_dict : bootBuiltins "dict" = some (.type "dict") := by first | rfl | kernel_rfl
theorem bt_isinstance : bootBuiltins "isinstance" = some (.builtin "isinstance") := by first | rfl | kernel_rfl
theorem bt_len : bootBuiltins "len" = some (.builtin "len") := by first | rfl | kernel_rfl
theorem bt_list : bootBuiltins "list" = some (.type "list") := by first | rfl | kernel_rfl
theorem bt_sorted : bootBuiltins "sorted" = some (.builtin "sorted") := by first | rfl | kernel_rfl
theorem bt_str : bootBuiltins "str" = some (.type "str") := by first | rfl | kernel_rfl
theorem bt_sum : bootBuiltins "sum" = some (.builtin "sum") := by first | rfl | kernel_rfl
theorem bt_tuple : bootBuiltins "tuple" = some (.type "tuple") := by first | rfl | kernel_rfl
section
variable {P : Program} {w : World} {K : PySem.W.Frag} {mg : Str → Option Value} {base : Heap}
theorem blk {N : List Str} {sc scope : Scope} {own : List (Str × Nat)} (h1 : scope.kind = .function) (h2 : ∀ y ∈ scope.names, scope.names.lookup y.1 = some y.2) (h3 : ∀ p ∈ own, N[p.2]? = some p.1) (h4 : ∀ y ∈ scope.names, y.2 = .free → sc.names.lookup y.1 = some .cell ∨ sc.names.lookup y.1 = some .free) (h5 : ∀ y ∈ scope.names, y.2 = .local ∨ y.2 = .cell → y.1 ∈ own.map (·.1) ∨ y.1 ∉ N) : BlkOk N sc scope own := ⟨h1, h2, h3, h4, h5⟩
theorem fn_none {k n : Nat} {f : Addr} {fd : FuncData} {pn : List Str} {cm : Nat → Addr} : FnOk P w K mg base (L2.CX P w) k f fd pn (spD K cm n fun _ _ => .stuck) := by
  have no : ∀ vs H Q E, ¬ spD K cm n (fun _ _ => .stuck) vs H Q E := fun vs H Q E ⟨_, _, _, _, _, _, _, _, h⟩ => h
  exact ⟨fun vs H Q E h => absurd h (no vs H Q E), fun A outer s H args us vs Q E _ _ _ _ h => absurd h (no vs H Q E)⟩
theorem sc_is_over : FnScope ["value", "signs", "least", "most", "char"] ["value", "signs", "least", "most"] (defScope S_is_over) := ⟨rfl, rfl, rfl, by decide +kernel, rfl, by decide +kernel, by decide +kernel⟩
set_option maxHeartbeats 0 in
theorem body_is_over (T : Txt K mg)    : FnOk P w K mg base (L2.CX P w) (0 + 1) T.f_is_over T.d_is_over ["value", "signs", "least", "most"] (spD K T.cm 4 (defD [] 5 (B_is_over ))) := by
  refine fn_D (G := ⟨T.cm, []⟩) T.F_is_over sc_is_over rfl fun fuel cdv A outer s H E hr => ?_
  have hu1 := L2.hu_of hr
  have hu64 := hr.units
  have nd := sc_is_over.nd
  have hc : (CXD P w K mg base ["value", "signs", "least", "most", "char"] "is_over" S_is_over T.f_is_over cdv A outer s H E).calm = true := rfl
  have hp : PassesOwn (model P w) (A.deeper (PyProof.Rows.envOfC "is_over" (defScope S_is_over) s.heap.objs.size T.f_is_over cdv)) (CXD P w K mg base ["value", "signs", "least", "most", "char"] "is_over" S_is_over T.f_is_over cdv A outer s H E).env (CXD P w K mg base ["value", "signs", "least", "most", "char"] "is_over" S_is_over T.f_is_over cdv A outer s H E).xe := L2.passes_of rfl
  have tk : L2.Takes (CXD P w K mg base ["value", "signs", "least", "most", "char"] "is_over" S_is_over T.f_is_over cdv A outer s H E) (WD E) := L2.takes_of rfl rfl rfl rfl
  exact (sd_one (sd_ret (ed_and (ed_callB cd_isi T.z_isinstance bt_isinstance (ad_cons (ed_var 0) (ad_cons (ed_ty "str" T.z_str bt_str) ad_nil))) (ed_and (ed_chain od_le od_le (ed_var 2) (ed_callB cd_len T.z_len bt_len (ad_cons (ed_var 0) ad_nil)) (ed_var 3)) (ed_and1 (ed_callB (cd_all hc) T.z_all bt_all (ad_cons (ed_of (eo_lc nd (id_seq (ed_var 0)) (blk (own := [("char", 4)]) rfl (of_decide_eq_true rfl) (of_decide_eq_true rfl) (of_decide_eq_true rfl) (of_decide_eq_true rfl)) (fun _ _ _ _ _ => (gd_name 4 nd)) (fun _ _ _ _ _ => ptd_nil) (fun _ _ _ _ _ => (ed_cmp (od_in hu1) (ed_var 4) (ed_var 1))))) ad_nil)))))))
theorem ok_is_over (T : Txt K mg) : FnOk P w K mg base (L2.CX P w) 1 T.f_is_over T.d_is_over ["value", "signs", "least", "most"] (spD K T.cm 4 F_is_over) := body_is_over T
theorem sc_are_parts : FnScope ["value", "depth", "names", "part"] ["value", "depth"] (defScope S_are_parts) := ⟨rfl, rfl, rfl, by decide +kernel, rfl, by decide +kernel, by decide +kernel⟩
set_option maxHeartbeats 0 in
theorem body_are_parts (T : Txt K mg) {k : Nat} (hk : 1 ≤ k) {c0 : Nat → List Sl → Res} {c1 : Nat → List Sl → Res} (C0 : FnOk P w K mg base (L2.CX P w) k T.f_are_parts T.d_are_parts ["value", "depth"] (spD K T.cm 2 c0)) (C1 : FnOk P w K mg base (L2.CX P w) k T.f_is_part T.d_is_part ["value", "depth"] (spD K T.cm 2 c1)) : FnOk P w K mg base (L2.CX P w) (k + 1) T.f_are_parts T.d_are_parts ["value", "depth"] (spD K T.cm 2 (defD [] 4 (B_are_parts c0 c1))) := by
  refine fn_D (G := ⟨T.cm, []⟩) T.F_are_parts sc_are_parts rfl fun fuel cdv A outer s H E hr => ?_
  have hu1 := L2.hu_of hr
  have hu64 := hr.units
  have nd := sc_are_parts.nd
  have hc : (CXD P w K mg base ["value", "depth", "names", "part"] "are_parts" S_are_parts T.f_are_parts cdv A outer s H E).calm = true := rfl
  have hp : PassesOwn (model P w) (A.deeper (PyProof.Rows.envOfC "are_parts" (defScope S_are_parts) s.heap.objs.size T.f_are_parts cdv)) (CXD P w K mg base ["value", "depth", "names", "part"] "are_parts" S_are_parts T.f_are_parts cdv A outer s H E).env (CXD P w K mg base ["value", "depth", "names", "part"] "are_parts" S_are_parts T.f_are_parts cdv A outer s H E).xe := L2.passes_of rfl
  have tk : L2.Takes (CXD P w K mg base ["value", "depth", "names", "part"] "are_parts" S_are_parts T.f_are_parts cdv A outer s H E) (WD E) := L2.takes_of rfl rfl rfl rfl
  exact (sd_cons (sd_if (td_w (tw_or (td_not (td_of (ed_callB cd_isi T.z_isinstance bt_isinstance (ad_cons (ed_var 0) (ad_cons (ed_ty "tuple" T.z_tuple bt_tuple) ad_nil))))) (tw_or1 (td_not (td_chain od_le od_le ed_int (ed_callB cd_len T.z_len bt_len (ad_cons (ed_var 0) ad_nil)) (ed_gint 6 T.g_PARTS))))))
    (sd_one (sd_ret ed_bl))
    sd_nil)
    (sd_cons (sd_if (td_not (td_of (ed_callB (cd_all hc) T.z_all bt_all (ad_cons (ed_of (eo_lc nd (id_seq (ed_var 0)) (blk (own := [("part", 3)]) rfl (of_decide_eq_true rfl) (of_decide_eq_true rfl) (of_decide_eq_true rfl) (of_decide_eq_true rfl)) (fun _ _ _ _ _ => (gd_name 3 nd)) (fun _ _ _ _ _ => ptd_nil) (fun _ _ _ _ _ => (ed_call C1 (hr.mono (by omega)) T.m_is_part T.k_is_part T.b_is_part L2.takes0 fuel (aa_val (ed_var 3) (aa_val (ed_var 1) aa_nil)))))) ad_nil))))
    (sd_one (sd_ret ed_bl))
    sd_nil)
    (sd_cons (sd_setLcV 2 nd (id_seq (ed_var 0)) (blk (own := [("part", 3)]) rfl (of_decide_eq_true rfl) (of_decide_eq_true rfl) (of_decide_eq_true rfl) (of_decide_eq_true rfl)) (fun _ _ _ _ _ => (gd_name 3 nd)) (fun _ _ _ _ _ => (ptd_one (td_cmp (od_ne hu64) (ed_ix (ix_any hu1) (ed_var 3) ed_int) (ed_str [116, 101, 120, 116] rfl)))) (fun _ _ _ _ _ => (ed_ix (ix_any hu1) (ed_var 3) ed_int)) (by exact L2.sw_true rfl rfl rfl rfl))
    (sd_one (sd_ret (ed_cmp (od_eq hu64) (ed_callB cd_len T.z_len bt_len (ad_cons (ed_var 2) ad_nil)) (ed_lenSet hc T.z_len T.z_set (ed_var 2))))))))
theorem sc_is_part : FnScope ["value", "depth", "kind", "part"] ["value", "depth"] (defScope S_is_part) := ⟨rfl, rfl, rfl, by decide +kernel, rfl, by decide +kernel, by decide +kernel⟩
set_option maxHeartbeats 0 in
theorem body_is_part (T : Txt K mg) {k : Nat} (hk : 1 ≤ k) {c0 : Nat → List Sl → Res} {c1 : Nat → List Sl → Res} (C0 : FnOk P w K mg base (L2.CX P w) k T.f_are_parts T.d_are_parts ["value", "depth"] (spD K T.cm 2 c0)) (C1 : FnOk P w K mg base (L2.CX P w) k T.f_is_part T.d_is_part ["value", "depth"] (spD K T.cm 2 c1)) : FnOk P w K mg base (L2.CX P w) (k + 1) T.f_is_part T.d_is_part ["value", "depth"] (spD K T.cm 2 (defD [] 4 (B_is_part c0 c1))) := by
  refine fn_D (G := ⟨T.cm, []⟩) T.F_is_part sc_is_part rfl fun fuel cdv A outer s H E hr => ?_
  have hu1 := L2.hu_of hr
  have hu64 := hr.units
  have nd := sc_is_part.nd
  have hc : (CXD P w K mg base ["value", "depth", "kind", "part"] "is_part" S_is_part T.f_is_part cdv A outer s H E).calm = true := rfl
  have hp : PassesOwn (model P w) (A.deeper (PyProof.Rows.envOfC "is_part" (defScope S_is_part) s.heap.objs.size T.f_is_part cdv)) (CXD P w K mg base ["value", "depth", "kind", "part"] "is_part" S_is_part T.f_is_part cdv A outer s H E).env (CXD P w K mg base ["value", "depth", "kind", "part"] "is_part" S_is_part T.f_is_part cdv A outer s H E).xe := L2.passes_of rfl
  have tk : L2.Takes (CXD P w K mg base ["value", "depth", "kind", "part"] "is_part" S_is_part T.f_is_part cdv A outer s H E) (WD E) := L2.takes_of rfl rfl rfl rfl
  exact (sd_cons (sd_if (td_w (tw_or (td_not (td_of (ed_callB cd_isi T.z_isinstance bt_isinstance (ad_cons (ed_var 0) (ad_cons (ed_ty "tuple" T.z_tuple bt_tuple) ad_nil))))) (tw_or (td_cmp od_lt (ed_callB cd_len T.z_len bt_len (ad_cons (ed_var 0) ad_nil)) ed_int) (tw_or1 (td_not (td_of (ed_callB cd_isi T.z_isinstance bt_isinstance (ad_cons (ed_ix (ix_any hu1) (ed_var 0) ed_int) (ad_cons (ed_ty "str" T.z_str bt_str) ad_nil)))))))))
    (sd_one (sd_ret ed_bl))
    sd_nil)
    (sd_cons (sd_asg (ed_ix (ix_any hu1) (ed_var 0) ed_int) (gd_name 2 nd))
    (sd_cons (sd_if (td_cmp (od_eq hu64) (ed_var 2) (ed_str [116, 101, 120, 116] rfl))
    (sd_one (sd_ret (ed_and (ed_cmp (od_eq hu64) (ed_callB cd_len T.z_len bt_len (ad_cons (ed_var 0) ad_nil)) ed_int) (ed_and1 (ed_call (ok_is_over T) (hr.mono (by omega)) T.m_is_over T.k_is_over T.b_is_over tk fuel (aa_val (ed_ix (ix_any hu1) (ed_var 0) ed_int) (aa_val (ed_gstr [97, 98, 99, 100, 101, 102, 103, 104, 105, 106, 107, 108, 109, 110, 111, 112, 113, 114, 115, 116, 117, 118, 119, 120, 121, 122, 32, 46, 44, 58, 45, 47] T.g_LITERAL rfl) (aa_val ed_int (aa_val ed_int aa_nil)))))))))
    sd_nil)
    (sd_cons (sd_if (td_not (td_of (ed_call (ok_is_over T) (hr.mono (by omega)) T.m_is_over T.k_is_over T.b_is_over tk fuel (aa_val (ed_ix (ix_any hu1) (ed_var 0) ed_int) (aa_val (ed_gstr [97, 98, 99, 100, 101, 102, 103, 104, 105, 106, 107, 108, 109, 110, 111, 112, 113, 114, 115, 116, 117, 118, 119, 120, 121, 122] T.g_LETTERS rfl) (aa_val ed_int (aa_val ed_int aa_nil)))))))
    (sd_one (sd_ret ed_bl))
    sd_nil)
    (sd_cons (sd_if (td_cmp (od_eq hu64) (ed_var 2) (ed_str [102, 105, 101, 108, 100] rfl))
    (sd_one (sd_ret (ed_cmp (od_eq hu64) (ed_callB cd_len T.z_len bt_len (ad_cons (ed_var 0) ad_nil)) ed_int)))
    sd_nil)
    (sd_cons (sd_if (td_cmp (od_eq hu64) (ed_var 2) (ed_str [105, 102] rfl))
    (sd_one (sd_ret (ed_and (ed_cmp (od_eq hu64) (ed_callB cd_len T.z_len bt_len (ad_cons (ed_var 0) ad_nil)) ed_int) (ed_and (ed_cmp od_gt (ed_var 1) ed_int) (ed_and1 (ed_call C0 (hr.mono (by omega)) T.m_are_parts T.k_are_parts T.b_are_parts tk fuel (aa_val (ed_ix (ix_any hu1) (ed_var 0) ed_int) (aa_val (ed_bin od_sub (ed_var 1) ed_int) aa_nil))))))))
    sd_nil)
    (sd_cons (sd_if (td_w (tw_or (td_cmp (od_ne hu64) (ed_var 2) (ed_str [101, 97, 99, 104] rfl)) (tw_or (td_cmp (od_ne hu64) (ed_callB cd_len T.z_len bt_len (ad_cons (ed_var 0) ad_nil)) ed_int) (tw_or (td_cmp (od_eq hu64) (ed_var 1) ed_int) (tw_or1 (td_not (td_of (ed_call (ok_is_over T) (hr.mono (by omega)) T.m_is_over T.k_is_over T.b_is_over tk fuel (aa_val (ed_ix (ix_any hu1) (ed_var 0) ed_int) (aa_val (ed_gstr [97, 98, 99, 100, 101, 102, 103, 104, 105, 106, 107, 108, 109, 110, 111, 112, 113, 114, 115, 116, 117, 118, 119, 120, 121, 122, 32, 46, 44, 58, 45, 47] T.g_LITERAL rfl) (aa_val ed_int (aa_val ed_int aa_nil))))))))))))
    (sd_one (sd_ret ed_bl))
    sd_nil)
    (sd_one (sd_ret (ed_and (ed_call C0 (hr.mono (by omega)) T.m_are_parts T.k_are_parts T.b_are_parts tk fuel (aa_val (ed_ix (ix_any hu1) (ed_var 0) ed_int) (aa_val (ed_bin od_sub (ed_var 1) ed_int) aa_nil))) (ed_and1 (ed_callB (cd_any hc) T.z_any bt_any (ad_cons (ed_of (eo_lc nd (id_seq (ed_ix (ix_any hu1) (ed_var 0) ed_int)) (blk (own := [("part", 3)]) rfl (of_decide_eq_true rfl) (of_decide_eq_true rfl) (of_decide_eq_true rfl) (of_decide_eq_true rfl)) (fun _ _ _ _ _ => (gd_name 3 nd)) (fun _ _ _ _ _ => ptd_nil) (fun _ _ _ _ _ => (ed_cmp (od_eq hu64) (ed_ix (ix_any hu1) (ed_var 3) ed_int) (ed_str [102, 105, 101, 108, 100] rfl))))) ad_nil)))))))))))))
theorem grp_are_parts (T : Txt K mg) : ∀ r : Nat, FnOk P w K mg base (L2.CX P w) (1 + r) T.f_are_parts T.d_are_parts ["value", "depth"] (spD K T.cm 2 (F_are_parts r)) ∧ FnOk P w K mg base (L2.CX P w) (1 + r) T.f_is_part T.d_is_part ["value", "depth"] (spD K T.cm 2 (F_is_part r))
  | 0 => ⟨fn_none, fn_none⟩
  | r + 1 => by
    have ih := grp_are_parts T r
    exact ⟨body_are_parts (base := base) T (k := 1 + r) (by omega) ih.1 ih.2, body_is_part (base := base) T (k := 1 + r) (by omega) ih.1 ih.2⟩
theorem ok_are_parts (T : Txt K mg) (r : Nat) : FnOk P w K mg base (L2.CX P w) (1 + r) T.f_are_parts T.d_are_parts ["value", "depth"] (spD K T.cm 2 (F_are_parts r)) := (grp_are_parts T r).1
theorem ok_is_part (T : Txt K mg) (r : Nat) : FnOk P w K mg base (L2.CX P w) (1 + r) T.f_is_part T.d_is_part ["value", "depth"] (spD K T.cm 2 (F_is_part r)) := (grp_are_parts T r).2
theorem sc_inner : FnScope ["part"] ["part"] (defScope S_inner) := ⟨rfl, rfl, rfl, by decide +kernel, rfl, by decide +kernel, by decide +kernel⟩
set_option maxHeartbeats 0 in
theorem body_inner (T : Txt K mg)    : FnOk P w K mg base (L2.CX P w) (0 + 1) T.f_inner T.d_inner ["part"] (spD K T.cm 1 (defD [] 1 (B_inner ))) := by
  refine fn_D (G := ⟨T.cm, []⟩) T.F_inner sc_inner rfl fun fuel cdv A outer s H E hr => ?_
  have hu1 := L2.hu_of hr
  have hu64 := hr.units
  have nd := sc_inner.nd
  have hc : (CXD P w K mg base ["part"] "inner" S_inner T.f_inner cdv A outer s H E).calm = true := rfl
  have hp : PassesOwn (model P w) (A.deeper (PyProof.Rows.envOfC "inner" (defScope S_inner) s.heap.objs.size T.f_inner cdv)) (CXD P w K mg base ["part"] "inner" S_inner T.f_inner cdv A outer s H E).env (CXD P w K mg base ["part"] "inner" S_inner T.f_inner cdv A outer s H E).xe := L2.passes_of rfl
  have tk : L2.Takes (CXD P w K mg base ["part"] "inner" S_inner T.f_inner cdv A outer s H E) (WD E) := L2.takes_of rfl rfl rfl rfl
  exact (sd_one (sd_ret (ed_if (td_cmp (od_in hu1) (ed_ix (ix_any hu1) (ed_var 0) ed_int) (ed_tup (ad_cons (ed_str [105, 102] rfl) (ad_cons (ed_str [101, 97, 99, 104] rfl) ad_nil)))) (ed_ix (ix_any hu1) (ed_var 0) (ed_neg ed_int)) (ed_tup ad_nil))))
theorem ok_inner (T : Txt K mg) : FnOk P w K mg base (L2.CX P w) 1 T.f_inner T.d_inner ["part"] (spD K T.cm 1 F_inner) := body_inner T
theorem sc_many_parts : FnScope ["parts", "counts", "sections", "part", "count"] ["parts"] (defScope S_many_parts) := ⟨rfl, rfl, rfl, by decide +kernel, rfl, by decide +kernel, by decide +kernel⟩
set_option maxHeartbeats 0 in
theorem body_many_parts (T : Txt K mg) {k : Nat} (hk : 1 ≤ k) {c0 : Nat → List Sl → Res} (C0 : FnOk P w K mg base (L2.CX P w) k T.f_many_parts T.d_many_parts ["parts"] (spD K T.cm 1 c0)) : FnOk P w K mg base (L2.CX P w) (k + 1) T.f_many_parts T.d_many_parts ["parts"] (spD K T.cm 1 (defD [] 5 (B_many_parts c0))) := by
  refine fn_D (G := ⟨T.cm, []⟩) T.F_many_parts sc_many_parts rfl fun fuel cdv A outer s H E hr => ?_
  have hu1 := L2.hu_of hr
  have hu64 := hr.units
  have nd := sc_many_parts.nd
  have hc : (CXD P w K mg base ["parts", "counts", "sections", "part", "count"] "many_parts" S_many_parts T.f_many_parts cdv A outer s H E).calm = true := rfl
  have hp : PassesOwn (model P w) (A.deeper (PyProof.Rows.envOfC "many_parts" (defScope S_many_parts) s.heap.objs.size T.f_many_parts cdv)) (CXD P w K mg base ["parts", "counts", "sections", "part", "count"] "many_parts" S_many_parts T.f_many_parts cdv A outer s H E).env (CXD P w K mg base ["parts", "counts", "sections", "part", "count"] "many_parts" S_many_parts T.f_many_parts cdv A outer s H E).xe := L2.passes_of rfl
  have tk : L2.Takes (CXD P w K mg base ["parts", "counts", "sections", "part", "count"] "many_parts" S_many_parts T.f_many_parts cdv A outer s H E) (WD E) := L2.takes_of rfl rfl rfl rfl
  exact (sd_cons (sd_setLcV 1 nd (id_seq (ed_var 0)) (blk (own := [("part", 3)]) rfl (of_decide_eq_true rfl) (of_decide_eq_true rfl) (of_decide_eq_true rfl) (of_decide_eq_true rfl)) (fun _ _ _ _ _ => (gd_name 3 nd)) (fun _ _ _ _ _ => ptd_nil) (fun _ _ _ _ _ => (ed_call C0 (hr.mono (by omega)) T.m_many_parts T.k_many_parts T.b_many_parts L2.takes0 fuel (aa_val (ed_call (ok_inner T) (hr.mono (by omega)) T.m_inner T.k_inner T.b_inner L2.takes0 fuel (aa_val (ed_var 3) aa_nil)) aa_nil))) (by exact L2.sw_true rfl rfl rfl rfl))
    (sd_cons (sd_asg (ed_callB cd_len T.z_len bt_len (ad_cons (ed_of (eo_lc nd (id_seq (ed_var 0)) (blk (own := [("part", 3)]) rfl (of_decide_eq_true rfl) (of_decide_eq_true rfl) (of_decide_eq_true rfl) (of_decide_eq_true rfl)) (fun _ _ _ _ _ => (gd_name 3 nd)) (fun _ _ _ _ _ => (ptd_one (td_cmp (od_ne hu64) (ed_call (ok_inner T) (hr.mono (by omega)) T.m_inner T.k_inner T.b_inner L2.takes0 fuel (aa_val (ed_var 3) aa_nil)) (ed_tup ad_nil)))) (fun _ _ _ _ _ => (ed_var 3)))) ad_nil)) (gd_name 2 nd))
    (sd_one (sd_ret (ed_tup (ad_cons (ed_bin od_add (ed_callB cd_len T.z_len bt_len (ad_cons (ed_var 0) ad_nil)) (ed_callB (cd_sum hc) T.z_sum bt_sum (ad_cons (ed_of (eo_lc nd (id_seq (ed_var 1)) (blk (own := [("count", 4)]) rfl (of_decide_eq_true rfl) (of_decide_eq_true rfl) (of_decide_eq_true rfl) (of_decide_eq_true rfl)) (fun _ _ _ _ _ => (gd_name 4 nd)) (fun _ _ _ _ _ => ptd_nil) (fun _ _ _ _ _ => (ed_ix (ix_any hu1) (ed_var 4) ed_int)))) ad_nil))) (ad_cons (ed_bin od_add (ed_var 2) (ed_callB (cd_sum hc) T.z_sum bt_sum (ad_cons (ed_of (eo_lc nd (id_seq (ed_var 1)) (blk (own := [("count", 4)]) rfl (of_decide_eq_true rfl) (of_decide_eq_true rfl) (of_decide_eq_true rfl) (of_decide_eq_true rfl)) (fun _ _ _ _ _ => (gd_name 4 nd)) (fun _ _ _ _ _ => ptd_nil) (fun _ _ _ _ _ => (ed_ix (ix_any hu1) (ed_var 4) ed_int)))) ad_nil))) ad_nil)))))))
theorem grp_many_parts (T : Txt K mg) : ∀ r : Nat, FnOk P w K mg base (L2.CX P w) (1 + r) T.f_many_parts T.d_many_parts ["parts"] (spD K T.cm 1 (F_many_parts r))
  | 0 => fn_none
  | r + 1 => by
    have ih := grp_many_parts T r
    exact body_many_parts (base := base) T (k := 1 + r) (by omega) ih
theorem ok_many_parts (T : Txt K mg) (r : Nat) : FnOk P w K mg base (L2.CX P w) (1 + r) T.f_many_parts T.d_many_parts ["parts"] (spD K T.cm 1 (F_many_parts r)) := (grp_many_parts T r)
theorem sc_is_template : FnScope ["value", "count", "sections"] ["value"] (defScope S_is_template) := ⟨rfl, rfl, rfl, by decide +kernel, rfl, by decide +kernel, by decide +kernel⟩
set_option maxHeartbeats 0 in
theorem body_is_template (T : Txt K mg)    : FnOk P w K mg base (L2.CX P w) (11 + 1) T.f_is_template T.d_is_template ["value"] (spD K T.cm 1 (defD [] 3 (B_is_template ))) := by
  refine fn_D (G := ⟨T.cm, []⟩) T.F_is_template sc_is_template rfl fun fuel cdv A outer s H E hr => ?_
  have hu1 := L2.hu_of hr
  have hu64 := hr.units
  have nd := sc_is_template.nd
  have hc : (CXD P w K mg base ["value", "count", "sections"] "is_template" S_is_template T.f_is_template cdv A outer s H E).calm = true := rfl
  have hp : PassesOwn (model P w) (A.deeper (PyProof.Rows.envOfC "is_template" (defScope S_is_template) s.heap.objs.size T.f_is_template cdv)) (CXD P w K mg base ["value", "count", "sections"] "is_template" S_is_template T.f_is_template cdv A outer s H E).env (CXD P w K mg base ["value", "count", "sections"] "is_template" S_is_template T.f_is_template cdv A outer s H E).xe := L2.passes_of rfl
  have tk : L2.Takes (CXD P w K mg base ["value", "count", "sections"] "is_template" S_is_template T.f_is_template cdv A outer s H E) (WD E) := L2.takes_of rfl rfl rfl rfl
  exact (sd_cons (sd_if (td_not (td_of (ed_call (ok_are_parts T 10) (hr.mono (by omega)) T.m_are_parts T.k_are_parts T.b_are_parts tk fuel (aa_val (ed_var 0) (aa_val (ed_gint 3 T.g_DEPTH) aa_nil)))))
    (sd_one (sd_ret ed_bl))
    sd_nil)
    (sd_cons (sd_asg (ed_call (ok_many_parts T 6) (hr.mono (by omega)) T.m_many_parts T.k_many_parts T.b_many_parts tk fuel (aa_val (ed_var 0) aa_nil)) (gd_tup 2 (gd_cons (gd_name 1 nd) (gd_cons (gd_name 2 nd) gd_nil))))
    (sd_one (sd_ret (ed_and (ed_cmp od_le (ed_var 1) (ed_gint 12 T.g_ALL_PARTS)) (ed_and1 (ed_cmp od_le (ed_var 2) (ed_gint 4 T.g_SECTIONS))))))))
theorem ok_is_template (T : Txt K mg) : FnOk P w K mg base (L2.CX P w) 12 T.f_is_template T.d_is_template ["value"] (spD K T.cm 1 F_is_template) := body_is_template T
theorem sc_need_template : FnScope ["value"] ["value"] (defScope S_need_template) := ⟨rfl, rfl, rfl, by decide +kernel, rfl, by decide +kernel, by decide +kernel⟩
set_option maxHeartbeats 0 in
theorem body_need_template (T : Txt K mg)    : FnOk P w K mg base (L2.CX P w) (12 + 1) T.f_need_template T.d_need_template ["value"] (spD K T.cm 1 (defD [] 1 (B_need_template ))) := by
  refine fn_D (G := ⟨T.cm, []⟩) T.F_need_template sc_need_template rfl fun fuel cdv A outer s H E hr => ?_
  have hu1 := L2.hu_of hr
  have hu64 := hr.units
  have nd := sc_need_template.nd
  have hc : (CXD P w K mg base ["value"] "need_template" S_need_template T.f_need_template cdv A outer s H E).calm = true := rfl
  have hp : PassesOwn (model P w) (A.deeper (PyProof.Rows.envOfC "need_template" (defScope S_need_template) s.heap.objs.size T.f_need_template cdv)) (CXD P w K mg base ["value"] "need_template" S_need_template T.f_need_template cdv A outer s H E).env (CXD P w K mg base ["value"] "need_template" S_need_template T.f_need_template cdv A outer s H E).xe := L2.passes_of rfl
  have tk : L2.Takes (CXD P w K mg base ["value"] "need_template" S_need_template T.f_need_template cdv A outer s H E) (WD E) := L2.takes_of rfl rfl rfl rfl
  exact (sd_one (sd_if (td_not (td_of (ed_call (ok_is_template T) (hr.mono (by omega)) T.m_is_template T.k_is_template T.b_is_template tk fuel (aa_val (ed_var 0) aa_nil))))
    (sd_one (sd_raise0 0 T.x_InvalidTemplate tk))
    sd_nil))
theorem ok_need_template (T : Txt K mg) : FnOk P w K mg base (L2.CX P w) 13 T.f_need_template T.d_need_template ["value"] (spD K T.cm 1 F_need_template) := body_need_template T
theorem sc_is_value : FnScope ["part", "value", "one"] ["part", "value"] (defScope S_is_value) := ⟨rfl, rfl, rfl, by decide +kernel, rfl, by decide +kernel, by decide +kernel⟩
set_option maxHeartbeats 0 in
theorem body_is_value (T : Txt K mg) {k : Nat} (hk : 1 ≤ k) {c0 : Nat → List Sl → Res} {c1 : Nat → List Sl → Res} (C0 : FnOk P w K mg base (L2.CX P w) k T.f_is_value T.d_is_value ["part", "value"] (spD K T.cm 2 c0)) (C1 : FnOk P w K mg base (L2.CX P w) k T.f_is_filling T.d_is_filling ["parts", "value"] (spD K T.cm 2 c1)) : FnOk P w K mg base (L2.CX P w) (k + 1) T.f_is_value T.d_is_value ["part", "value"] (spD K T.cm 2 (defD [] 3 (B_is_value c0 c1))) := by
  refine fn_D (G := ⟨T.cm, []⟩) T.F_is_value sc_is_value rfl fun fuel cdv A outer s H E hr => ?_
  have hu1 := L2.hu_of hr
  have hu64 := hr.units
  have nd := sc_is_value.nd
  have hc : (CXD P w K mg base ["part", "value", "one"] "is_value" S_is_value T.f_is_value cdv A outer s H E).calm = true := rfl
  have hp : PassesOwn (model P w) (A.deeper (PyProof.Rows.envOfC "is_value" (defScope S_is_value) s.heap.objs.size T.f_is_value cdv)) (CXD P w K mg base ["part", "value", "one"] "is_value" S_is_value T.f_is_value cdv A outer s H E).env (CXD P w K mg base ["part", "value", "one"] "is_value" S_is_value T.f_is_value cdv A outer s H E).xe := L2.passes_of rfl
  have tk : L2.Takes (CXD P w K mg base ["part", "value", "one"] "is_value" S_is_value T.f_is_value cdv A outer s H E) (WD E) := L2.takes_of rfl rfl rfl rfl
  exact (sd_cons (sd_if (td_cmp (od_eq hu64) (ed_ix (ix_any hu1) (ed_var 0) ed_int) (ed_str [102, 105, 101, 108, 100] rfl))
    (sd_one (sd_ret (ed_call (ok_is_over T) (hr.mono (by omega)) T.m_is_over T.k_is_over T.b_is_over tk fuel (aa_val (ed_var 1) (aa_val (ed_gstr [97, 98, 99, 100, 101, 102, 103, 104, 105, 106, 107, 108, 109, 110, 111, 112, 113, 114, 115, 116, 117, 118, 119, 120, 121, 122] T.g_LETTERS rfl) (aa_val ed_int (aa_val (ed_gint 8 T.g_WORD) aa_nil)))))))
    sd_nil)
    (sd_cons (sd_if (td_cmp (od_eq hu64) (ed_ix (ix_any hu1) (ed_var 0) ed_int) (ed_str [105, 102] rfl))
    (sd_one (sd_ret (ed_or (ed_cmp od_is (ed_var 1) ed_non) (ed_and1 (ed_call C1 (hr.mono (by omega)) T.m_is_filling T.k_is_filling T.b_is_filling tk fuel (aa_val (ed_ix (ix_any hu1) (ed_var 0) ed_int) (aa_val (ed_var 1) aa_nil)))))))
    sd_nil)
    (sd_one (sd_ret (ed_and (ed_callB cd_isi T.z_isinstance bt_isinstance (ad_cons (ed_var 1) (ad_cons (ed_ty "list" T.z_list bt_list) ad_nil))) (ed_and (ed_cmp od_le (ed_callB cd_len T.z_len bt_len (ad_cons (ed_var 1) ad_nil)) (ed_gint 4 T.g_ITEMS)) (ed_and1 (ed_callB (cd_all hc) T.z_all bt_all (ad_cons (ed_of (eo_lc nd (id_seq (ed_var 1)) (blk (own := [("one", 2)]) rfl (of_decide_eq_true rfl) (of_decide_eq_true rfl) (of_decide_eq_true rfl) (of_decide_eq_true rfl)) (fun _ _ _ _ _ => (gd_name 2 nd)) (fun _ _ _ _ _ => ptd_nil) (fun _ _ _ _ _ => (ed_call C1 (hr.mono (by omega)) T.m_is_filling T.k_is_filling T.b_is_filling L2.takes0 fuel (aa_val (ed_ix (ix_any hu1) (ed_var 0) ed_int) (aa_val (ed_var 2) aa_nil)))))) ad_nil)))))))))
theorem sc_is_filling : FnScope ["parts", "value", "named", "part", "key"] ["parts", "value"] (defScope S_is_filling) := ⟨rfl, rfl, rfl, by decide +kernel, rfl, by decide +kernel, by decide +kernel⟩
set_option maxHeartbeats 0 in
theorem body_is_filling (T : Txt K mg) {k : Nat} (hk : 1 ≤ k) {c0 : Nat → List Sl → Res} {c1 : Nat → List Sl → Res} (C0 : FnOk P w K mg base (L2.CX P w) k T.f_is_value T.d_is_value ["part", "value"] (spD K T.cm 2 c0)) (C1 : FnOk P w K mg base (L2.CX P w) k T.f_is_filling T.d_is_filling ["parts", "value"] (spD K T.cm 2 c1)) : FnOk P w K mg base (L2.CX P w) (k + 1) T.f_is_filling T.d_is_filling ["parts", "value"] (spD K T.cm 2 (defD [] 5 (B_is_filling c0 c1))) := by
  refine fn_D (G := ⟨T.cm, []⟩) T.F_is_filling sc_is_filling rfl fun fuel cdv A outer s H E hr => ?_
  have hu1 := L2.hu_of hr
  have hu64 := hr.units
  have nd := sc_is_filling.nd
  have hc : (CXD P w K mg base ["parts", "value", "named", "part", "key"] "is_filling" S_is_filling T.f_is_filling cdv A outer s H E).calm = true := rfl
  have hp : PassesOwn (model P w) (A.deeper (PyProof.Rows.envOfC "is_filling" (defScope S_is_filling) s.heap.objs.size T.f_is_filling cdv)) (CXD P w K mg base ["parts", "value", "named", "part", "key"] "is_filling" S_is_filling T.f_is_filling cdv A outer s H E).env (CXD P w K mg base ["parts", "value", "named", "part", "key"] "is_filling" S_is_filling T.f_is_filling cdv A outer s H E).xe := L2.passes_of rfl
  have tk : L2.Takes (CXD P w K mg base ["parts", "value", "named", "part", "key"] "is_filling" S_is_filling T.f_is_filling cdv A outer s H E) (WD E) := L2.takes_of rfl rfl rfl rfl
  exact (sd_cons (sd_if (td_w (tw_or (td_not (td_of (ed_callB cd_isi T.z_isinstance bt_isinstance (ad_cons (ed_var 1) (ad_cons (ed_ty "dict" T.z_dict bt_dict) ad_nil))))) (tw_or1 (td_not (td_of (ed_callB (cd_all hc) T.z_all bt_all (ad_cons (ed_of (eo_lcK 1 nd (blk (own := [("key", 4)]) rfl (of_decide_eq_true rfl) (of_decide_eq_true rfl) (of_decide_eq_true rfl) (of_decide_eq_true rfl)) (fun _ _ _ _ _ => (gd_name 4 nd)) (fun _ _ _ _ _ => ptd_nil) (fun _ _ _ _ _ => (ed_callB cd_isi T.z_isinstance bt_isinstance (ad_cons (ed_var 4) (ad_cons (ed_ty "str" T.z_str bt_str) ad_nil)))))) ad_nil)))))))
    (sd_one (sd_ret ed_bl))
    sd_nil)
    (sd_cons (sd_setLcV 2 nd (id_seq (ed_var 0)) (blk (own := [("part", 3)]) rfl (of_decide_eq_true rfl) (of_decide_eq_true rfl) (of_decide_eq_true rfl) (of_decide_eq_true rfl)) (fun _ _ _ _ _ => (gd_name 3 nd)) (fun _ _ _ _ _ => (ptd_one (td_cmp (od_ne hu64) (ed_ix (ix_any hu1) (ed_var 3) ed_int) (ed_str [116, 101, 120, 116] rfl)))) (fun _ _ _ _ _ => (ed_var 3)) (by exact L2.sw_true rfl rfl rfl rfl))
    (sd_cons (sd_if (td_cmp (od_ne hu64) (ed_callB (cd_sorted hc) T.z_sorted bt_sorted (ad_cons (ed_var 1) ad_nil)) (ed_callB (cd_sorted hc) T.z_sorted bt_sorted (ad_cons (ed_of (eo_lc nd (id_seq (ed_var 2)) (blk (own := [("part", 3)]) rfl (of_decide_eq_true rfl) (of_decide_eq_true rfl) (of_decide_eq_true rfl) (of_decide_eq_true rfl)) (fun _ _ _ _ _ => (gd_name 3 nd)) (fun _ _ _ _ _ => ptd_nil) (fun _ _ _ _ _ => (ed_ix (ix_any hu1) (ed_var 3) ed_int)))) ad_nil)))
    (sd_one (sd_ret ed_bl))
    sd_nil)
    (sd_one (sd_ret (ed_callB (cd_all hc) T.z_all bt_all (ad_cons (ed_of (eo_lc nd (id_seq (ed_var 2)) (blk (own := [("part", 3)]) rfl (of_decide_eq_true rfl) (of_decide_eq_true rfl) (of_decide_eq_true rfl) (of_decide_eq_true rfl)) (fun _ _ _ _ _ => (gd_name 3 nd)) (fun _ _ _ _ _ => ptd_nil) (fun _ _ _ _ _ => (ed_call C0 (hr.mono (by omega)) T.m_is_value T.k_is_value T.b_is_value L2.takes0 fuel (aa_val (ed_var 3) (aa_val (ed_ix (ix_any hu1) (ed_var 1) (ed_ix (ix_any hu1) (ed_var 3) ed_int)) aa_nil)))))) ad_nil)))))))
theorem grp_is_value (T : Txt K mg) : ∀ r : Nat, FnOk P w K mg base (L2.CX P w) (1 + r) T.f_is_value T.d_is_value ["part", "value"] (spD K T.cm 2 (F_is_value r)) ∧ FnOk P w K mg base (L2.CX P w) (1 + r) T.f_is_filling T.d_is_filling ["parts", "value"] (spD K T.cm 2 (F_is_filling r))
  | 0 => ⟨fn_none, fn_none⟩
  | r + 1 => by
    have ih := grp_is_value T r
    exact ⟨body_is_value (base := base) T (k := 1 + r) (by omega) ih.1 ih.2, body_is_filling (base := base) T (k := 1 + r) (by omega) ih.1 ih.2⟩
theorem ok_is_value (T : Txt K mg) (r : Nat) : FnOk P w K mg base (L2.CX P w) (1 + r) T.f_is_value T.d_is_value ["part", "value"] (spD K T.cm 2 (F_is_value r)) := (grp_is_value T r).1
theorem ok_is_filling (T : Txt K mg) (r : Nat) : FnOk P w K mg base (L2.CX P w) (1 + r) T.f_is_filling T.d_is_filling ["parts", "value"] (spD K T.cm 2 (F_is_filling r)) := (grp_is_value T r).2
theorem sc_is_record : FnScope ["template", "value"] ["template", "value"] (defScope S_is_record) := ⟨rfl, rfl, rfl, by decide +kernel, rfl, by decide +kernel, by decide +kernel⟩
set_option maxHeartbeats 0 in
theorem body_is_record (T : Txt K mg)    : FnOk P w K mg base (L2.CX P w) (13 + 1) T.f_is_record T.d_is_record ["template", "value"] (spD K T.cm 2 (defD [] 2 (B_is_record ))) := by
  refine fn_D (G := ⟨T.cm, []⟩) T.F_is_record sc_is_record rfl fun fuel cdv A outer s H E hr => ?_
  have hu1 := L2.hu_of hr
  have hu64 := hr.units
  have nd := sc_is_record.nd
  have hc : (CXD P w K mg base ["template", "value"] "is_record" S_is_record T.f_is_record cdv A outer s H E).calm = true := rfl
  have hp : PassesOwn (model P w) (A.deeper (PyProof.Rows.envOfC "is_record" (defScope S_is_record) s.heap.objs.size T.f_is_record cdv)) (CXD P w K mg base ["template", "value"] "is_record" S_is_record T.f_is_record cdv A outer s H E).env (CXD P w K mg base ["template", "value"] "is_record" S_is_record T.f_is_record cdv A outer s H E).xe := L2.passes_of rfl
  have tk : L2.Takes (CXD P w K mg base ["template", "value"] "is_record" S_is_record T.f_is_record cdv A outer s H E) (WD E) := L2.takes_of rfl rfl rfl rfl
  exact (sd_cons (sd_expr (ed_call (ok_need_template T) (hr.mono (by omega)) T.m_need_template T.k_need_template T.b_need_template tk fuel (aa_val (ed_var 0) aa_nil)))
    (sd_one (sd_ret (ed_call (ok_is_filling T 10) (hr.mono (by omega)) T.m_is_filling T.k_is_filling T.b_is_filling tk fuel (aa_val (ed_var 0) (aa_val (ed_var 1) aa_nil))))))
theorem ok_is_record (T : Txt K mg) : FnOk P w K mg base (L2.CX P w) 14 T.f_is_record T.d_is_record ["template", "value"] (spD K T.cm 2 F_is_record) := body_is_record T
theorem sc_are_alike : FnScope ["parts", "others", "ones", "twos", "part", "name"] ["parts", "others"] (defScope S_are_alike) := ⟨rfl, rfl, rfl, by decide +kernel, rfl, by decide +kernel, by decide +kernel⟩
set_option maxHeartbeats 0 in
theorem body_are_alike (T : Txt K mg) {k : Nat} (hk : 1 ≤ k) {c0 : Nat → List Sl → Res} (C0 : FnOk P w K mg base (L2.CX P w) k T.f_are_alike T.d_are_alike ["parts", "others"] (spD K T.cm 2 c0)) : FnOk P w K mg base (L2.CX P w) (k + 1) T.f_are_alike T.d_are_alike ["parts", "others"] (spD K T.cm 2 (defD [] 6 (B_are_alike c0))) := by
  refine fn_D (G := ⟨T.cm, []⟩) T.F_are_alike sc_are_alike rfl fun fuel cdv A outer s H E hr => ?_
  have hu1 := L2.hu_of hr
  have hu64 := hr.units
  have nd := sc_are_alike.nd
  have hc : (CXD P w K mg base ["parts", "others", "ones", "twos", "part", "name"] "are_alike" S_are_alike T.f_are_alike cdv A outer s H E).calm = true := rfl
  have hp : PassesOwn (model P w) (A.deeper (PyProof.Rows.envOfC "are_alike" (defScope S_are_alike) s.heap.objs.size T.f_are_alike cdv)) (CXD P w K mg base ["parts", "others", "ones", "twos", "part", "name"] "are_alike" S_are_alike T.f_are_alike cdv A outer s H E).env (CXD P w K mg base ["parts", "others", "ones", "twos", "part", "name"] "are_alike" S_are_alike T.f_are_alike cdv A outer s H E).xe := L2.passes_of rfl
  have tk : L2.Takes (CXD P w K mg base ["parts", "others", "ones", "twos", "part", "name"] "are_alike" S_are_alike T.f_are_alike cdv A outer s H E) (WD E) := L2.takes_of rfl rfl rfl rfl
  exact (sd_cons (sd_asg (ed_of (eo_dc nd (id_seq (ed_var 0)) (blk (own := [("part", 4)]) rfl (of_decide_eq_true rfl) (of_decide_eq_true rfl) (of_decide_eq_true rfl) (of_decide_eq_true rfl)) (fun _ _ _ _ _ => (gd_name 4 nd)) (fun _ _ _ _ _ => (ptd_one (td_cmp (od_ne hu64) (ed_ix (ix_any hu1) (ed_var 4) ed_int) (ed_str [116, 101, 120, 116] rfl)))) (fun _ _ _ _ _ => (ed_ix (ix_any hu1) (ed_var 4) ed_int)) (fun _ _ _ _ _ => (ed_var 4)))) (gd_name 2 nd))
    (sd_cons (sd_asg (ed_of (eo_dc nd (id_seq (ed_var 1)) (blk (own := [("part", 4)]) rfl (of_decide_eq_true rfl) (of_decide_eq_true rfl) (of_decide_eq_true rfl) (of_decide_eq_true rfl)) (fun _ _ _ _ _ => (gd_name 4 nd)) (fun _ _ _ _ _ => (ptd_one (td_cmp (od_ne hu64) (ed_ix (ix_any hu1) (ed_var 4) ed_int) (ed_str [116, 101, 120, 116] rfl)))) (fun _ _ _ _ _ => (ed_ix (ix_any hu1) (ed_var 4) ed_int)) (fun _ _ _ _ _ => (ed_var 4)))) (gd_name 3 nd))
    (sd_cons (sd_if (td_cmp (od_ne hu64) (ed_callB (cd_sorted hc) T.z_sorted bt_sorted (ad_cons (ed_var 2) ad_nil)) (ed_callB (cd_sorted hc) T.z_sorted bt_sorted (ad_cons (ed_var 3) ad_nil)))
    (sd_one (sd_ret ed_bl))
    sd_nil)
    (sd_one (sd_ret (ed_callB (cd_all hc) T.z_all bt_all (ad_cons (ed_of (eo_lcK 2 nd (blk (own := [("name", 5)]) rfl (of_decide_eq_true rfl) (of_decide_eq_true rfl) (of_decide_eq_true rfl) (of_decide_eq_true rfl)) (fun _ _ _ _ _ => (gd_name 5 nd)) (fun _ _ _ _ _ => ptd_nil) (fun _ _ _ _ _ => (ed_and (ed_cmp (od_eq hu64) (ed_ix (ix_any hu1) (ed_ix (ix_any hu1) (ed_var 2) (ed_var 5)) ed_int) (ed_ix (ix_any hu1) (ed_ix (ix_any hu1) (ed_var 3) (ed_var 5)) ed_int)) (ed_and1 (ed_call C0 (hr.mono (by omega)) T.m_are_alike T.k_are_alike T.b_are_alike L2.takes0 fuel (aa_val (ed_call (ok_inner T) (hr.mono (by omega)) T.m_inner T.k_inner T.b_inner L2.takes0 fuel (aa_val (ed_ix (ix_any hu1) (ed_var 2) (ed_var 5)) aa_nil)) (aa_val (ed_call (ok_inner T) (hr.mono (by omega)) T.m_inner T.k_inner T.b_inner L2.takes0 fuel (aa_val (ed_ix (ix_any hu1) (ed_var 3) (ed_var 5)) aa_nil)) aa_nil)))))))) ad_nil)))))))
theorem grp_are_alike (T : Txt K mg) : ∀ r : Nat, FnOk P w K mg base (L2.CX P w) (1 + r) T.f_are_alike T.d_are_alike ["parts", "others"] (spD K T.cm 2 (F_are_alike r))
  | 0 => fn_none
  | r + 1 => by
    have ih := grp_are_alike T r
    exact body_are_alike (base := base) T (k := 1 + r) (by omega) ih
theorem ok_are_alike (T : Txt K mg) (r : Nat) : FnOk P w K mg base (L2.CX P w) (1 + r) T.f_are_alike T.d_are_alike ["parts", "others"] (spD K T.cm 2 (F_are_alike r)) := (grp_are_alike T r)
theorem sc_alike : FnScope ["template", "other"] ["template", "other"] (defScope S_alike) := ⟨rfl, rfl, rfl, by decide +kernel, rfl, by decide +kernel, by decide +kernel⟩
set_option maxHeartbeats 0 in
theorem body_alike (T : Txt K mg)    : FnOk P w K mg base (L2.CX P w) (13 + 1) T.f_alike T.d_alike ["template", "other"] (spD K T.cm 2 (defD [] 2 (B_alike ))) := by
  refine fn_D (G := ⟨T.cm, []⟩) T.F_alike sc_alike rfl fun fuel cdv A outer s H E hr => ?_
  have hu1 := L2.hu_of hr
  have hu64 := hr.units
  have nd := sc_alike.nd
  have hc : (CXD P w K mg base ["template", "other"] "alike" S_alike T.f_alike cdv A outer s H E).calm = true := rfl
  have hp : PassesOwn (model P w) (A.deeper (PyProof.Rows.envOfC "alike" (defScope S_alike) s.heap.objs.size T.f_alike cdv)) (CXD P w K mg base ["template", "other"] "alike" S_alike T.f_alike cdv A outer s H E).env (CXD P w K mg base ["template", "other"] "alike" S_alike T.f_alike cdv A outer s H E).xe := L2.passes_of rfl
  have tk : L2.Takes (CXD P w K mg base ["template", "other"] "alike" S_alike T.f_alike cdv A outer s H E) (WD E) := L2.takes_of rfl rfl rfl rfl
  exact (sd_cons (sd_expr (ed_call (ok_need_template T) (hr.mono (by omega)) T.m_need_template T.k_need_template T.b_need_template tk fuel (aa_val (ed_var 0) aa_nil)))
    (sd_cons (sd_expr (ed_call (ok_need_template T) (hr.mono (by omega)) T.m_need_template T.k_need_template T.b_need_template tk fuel (aa_val (ed_var 1) aa_nil)))
    (sd_one (sd_ret (ed_call (ok_are_alike T 8) (hr.mono (by omega)) T.m_are_alike T.k_are_alike T.b_are_alike tk fuel (aa_val (ed_var 0) (aa_val (ed_var 1) aa_nil)))))))
theorem ok_alike (T : Txt K mg) : FnOk P w K mg base (L2.CX P w) 14 T.f_alike T.d_alike ["template", "other"] (spD K T.cm 2 F_alike) := body_alike T
theorem sc_with_value : FnScope ["record", "name", "value", "result"] ["record", "name", "value"] (defScope S_with_value) := ⟨rfl, rfl, rfl, by decide +kernel, rfl, by decide +kernel, by decide +kernel⟩
set_option maxHeartbeats 0 in
theorem body_with_value (T : Txt K mg)    : FnOk P w K mg base (L2.CX P w) (0 + 1) T.f_with_value T.d_with_value ["record", "name", "value"] (spD K T.cm 3 (defD [] 4 (B_with_value ))) := by
  refine fn_D (G := ⟨T.cm, []⟩) T.F_with_value sc_with_value rfl fun fuel cdv A outer s H E hr => ?_
  have hu1 := L2.hu_of hr
  have hu64 := hr.units
  have nd := sc_with_value.nd
  have hc : (CXD P w K mg base ["record", "name", "value", "result"] "with_value" S_with_value T.f_with_value cdv A outer s H E).calm = true := rfl
  have hp : PassesOwn (model P w) (A.deeper (PyProof.Rows.envOfC "with_value" (defScope S_with_value) s.heap.objs.size T.f_with_value cdv)) (CXD P w K mg base ["record", "name", "value", "result"] "with_value" S_with_value T.f_with_value cdv A outer s H E).env (CXD P w K mg base ["record", "name", "value", "result"] "with_value" S_with_value T.f_with_value cdv A outer s H E).xe := L2.passes_of rfl
  have tk : L2.Takes (CXD P w K mg base ["record", "name", "value", "result"] "with_value" S_with_value T.f_with_value cdv A outer s H E) (WD E) := L2.takes_of rfl rfl rfl rfl
  exact (sd_cons (sd_setO 3 (eo_dict hc T.z_dict bt_dict (ed_var 0)) nd)
    (sd_cons (sd_dput 3 hu1 (ed_var 1) (ed_var 2))
    (sd_one (sd_retO (eo_move 3 (of_decide_eq_true rfl))))))
theorem ok_with_value (T : Txt K mg) : FnOk P w K mg base (L2.CX P w) 1 T.f_with_value T.d_with_value ["record", "name", "value"] (spD K T.cm 3 F_with_value) := body_with_value T
theorem sc_values_of : FnScope ["part", "records", "found", "weight", "record", "more", "another"] ["part"] (defScope S_values_of) := ⟨rfl, rfl, rfl, by decide +kernel, rfl, by decide +kernel, by decide +kernel⟩
set_option maxHeartbeats 0 in
theorem body_values_of (T : Txt K mg) {k : Nat} (hk : 1 ≤ k) {c0 : Nat → List Sl → Res} {c1 : Nat → List Sl → Res} (C0 : FnOk P w K mg base (L2.CX P w) k T.f_values_of T.d_values_of ["part"] (spD K T.cm 1 c0)) (C1 : FnOk P w K mg base (L2.CX P w) k T.f_shapes T.d_shapes ["parts"] (spD K T.cm 1 c1)) : FnOk P w K mg base (L2.CX P w) (k + 1) T.f_values_of T.d_values_of ["part"] (spD K T.cm 1 (defD [] 7 (B_values_of c0 c1))) := by
  refine fn_D (G := ⟨T.cm, []⟩) T.F_values_of sc_values_of rfl fun fuel cdv A outer s H E hr => ?_
  have hu1 := L2.hu_of hr
  have hu64 := hr.units
  have nd := sc_values_of.nd
  have hc : (CXD P w K mg base ["part", "records", "found", "weight", "record", "more", "another"] "values_of" S_values_of T.f_values_of cdv A outer s H E).calm = true := rfl
  have hp : PassesOwn (model P w) (A.deeper (PyProof.Rows.envOfC "values_of" (defScope S_values_of) s.heap.objs.size T.f_values_of cdv)) (CXD P w K mg base ["part", "records", "found", "weight", "record", "more", "another"] "values_of" S_values_of T.f_values_of cdv A outer s H E).env (CXD P w K mg base ["part", "records", "found", "weight", "record", "more", "another"] "values_of" S_values_of T.f_values_of cdv A outer s H E).xe := L2.passes_of rfl
  have tk : L2.Takes (CXD P w K mg base ["part", "records", "found", "weight", "record", "more", "another"] "values_of" S_values_of T.f_values_of cdv A outer s H E) (WD E) := L2.takes_of rfl rfl rfl rfl
  exact (sd_cons (sd_if (td_cmp (od_eq hu64) (ed_ix (ix_any hu1) (ed_var 0) ed_int) (ed_str [102, 105, 101, 108, 100] rfl))
    (sd_one (sd_ret (ed_lst (ad_cons (ed_tup (ad_cons ed_int (ad_cons (ed_str [97] rfl) ad_nil))) ad_nil))))
    sd_nil)
    (sd_cons (sd_asg (ed_call C1 (hr.mono (by omega)) T.m_shapes T.k_shapes T.b_shapes tk fuel (aa_val (ed_ix (ix_any hu1) (ed_var 0) (ed_neg ed_int)) aa_nil)) (gd_name 1 nd))
    (sd_cons (sd_if (td_cmp (od_eq hu64) (ed_ix (ix_any hu1) (ed_var 0) ed_int) (ed_str [105, 102] rfl))
    (sd_one (sd_ret (ed_bin od_add (ed_lst (ad_cons (ed_tup (ad_cons ed_int (ad_cons ed_non ad_nil))) ad_nil)) (ed_of (eo_lc nd (id_seq (ed_var 1)) (blk (own := [("weight", 3), ("record", 4)]) rfl (of_decide_eq_true rfl) (of_decide_eq_true rfl) (of_decide_eq_true rfl) (of_decide_eq_true rfl)) (fun _ _ _ _ _ => (gd_tup 2 (gd_cons (gd_name 3 nd) (gd_cons (gd_name 4 nd) gd_nil)))) (fun _ _ _ _ _ => ptd_nil) (fun _ _ _ _ _ => (ed_tup (ad_cons (ed_bin od_add ed_int (ed_var 3)) (ad_cons (ed_var 4) ad_nil)))))))))
    sd_nil)
    (sd_cons (sd_setO 2 (eo_addL (ed_lst (ad_cons (ed_tup (ad_cons ed_int (ad_cons (ed_lst ad_nil) ad_nil))) ad_nil)) (ed_of (eo_lc nd (id_seq (ed_var 1)) (blk (own := [("weight", 3), ("record", 4)]) rfl (of_decide_eq_true rfl) (of_decide_eq_true rfl) (of_decide_eq_true rfl) (of_decide_eq_true rfl)) (fun _ _ _ _ _ => (gd_tup 2 (gd_cons (gd_name 3 nd) (gd_cons (gd_name 4 nd) gd_nil)))) (fun _ _ _ _ _ => ptd_nil) (fun _ _ _ _ _ => (ed_tup (ad_cons (ed_bin od_add ed_int (ed_var 3)) (ad_cons (ed_lst (ad_cons (ed_var 4) ad_nil)) ad_nil))))))) nd)
    (sd_cons (sd_for hp (id_seq (ed_var 1)) (gd_tup 2 (gd_cons (gd_name 3 nd) (gd_cons (gd_name 4 nd) gd_nil)))
    (sd_one (sd_ext 2 (ed_of (eo_lc nd (id_seq (ed_var 1)) (blk (own := [("more", 5), ("another", 6)]) rfl (of_decide_eq_true rfl) (of_decide_eq_true rfl) (of_decide_eq_true rfl) (of_decide_eq_true rfl)) (fun _ _ _ _ _ => (gd_tup 2 (gd_cons (gd_name 5 nd) (gd_cons (gd_name 6 nd) gd_nil)))) (fun _ _ _ _ _ => ptd_nil) (fun _ _ _ _ _ => (ed_tup (ad_cons (ed_bin od_add (ed_bin od_add ed_int (ed_var 3)) (ed_var 5)) (ad_cons (ed_lst (ad_cons (ed_var 4) (ad_cons (ed_var 6) ad_nil))) ad_nil)))))))))
    (sd_one (sd_ret (ed_varF 2))))))))
theorem sc_shapes : FnScope ["parts", "found", "part", "values", "longer", "weight", "record", "more", "value"] ["parts"] (defScope S_shapes) := ⟨rfl, rfl, rfl, by decide +kernel, rfl, by decide +kernel, by decide +kernel⟩
set_option maxHeartbeats 0 in
theorem body_shapes (T : Txt K mg) {k : Nat} (hk : 1 ≤ k) {c0 : Nat → List Sl → Res} {c1 : Nat → List Sl → Res} (C0 : FnOk P w K mg base (L2.CX P w) k T.f_values_of T.d_values_of ["part"] (spD K T.cm 1 c0)) (C1 : FnOk P w K mg base (L2.CX P w) k T.f_shapes T.d_shapes ["parts"] (spD K T.cm 1 c1)) : FnOk P w K mg base (L2.CX P w) (k + 1) T.f_shapes T.d_shapes ["parts"] (spD K T.cm 1 (defD [] 9 (B_shapes c0 c1))) := by
  refine fn_D (G := ⟨T.cm, []⟩) T.F_shapes sc_shapes rfl fun fuel cdv A outer s H E hr => ?_
  have hu1 := L2.hu_of hr
  have hu64 := hr.units
  have nd := sc_shapes.nd
  have hc : (CXD P w K mg base ["parts", "found", "part", "values", "longer", "weight", "record", "more", "value"] "shapes" S_shapes T.f_shapes cdv A outer s H E).calm = true := rfl
  have hp : PassesOwn (model P w) (A.deeper (PyProof.Rows.envOfC "shapes" (defScope S_shapes) s.heap.objs.size T.f_shapes cdv)) (CXD P w K mg base ["parts", "found", "part", "values", "longer", "weight", "record", "more", "value"] "shapes" S_shapes T.f_shapes cdv A outer s H E).env (CXD P w K mg base ["parts", "found", "part", "values", "longer", "weight", "record", "more", "value"] "shapes" S_shapes T.f_shapes cdv A outer s H E).xe := L2.passes_of rfl
  have tk : L2.Takes (CXD P w K mg base ["parts", "found", "part", "values", "longer", "weight", "record", "more", "value"] "shapes" S_shapes T.f_shapes cdv A outer s H E) (WD E) := L2.takes_of rfl rfl rfl rfl
  exact (sd_cons (sd_asg (ed_lst (ad_cons (ed_tup (ad_cons ed_int (ad_cons (ed_of eo_dicK) ad_nil))) ad_nil)) (gd_name 1 nd))
    (sd_cons (sd_for hp (id_seq (ed_var 0)) (gd_name 2 nd)
    (sd_one (sd_if (td_cmp (od_ne hu64) (ed_ix (ix_any hu1) (ed_var 2) ed_int) (ed_str [116, 101, 120, 116] rfl))
    (sd_cons (sd_asg (ed_call C0 (hr.mono (by omega)) T.m_values_of T.k_values_of T.b_values_of tk fuel (aa_val (ed_var 2) aa_nil)) (gd_name 3 nd))
    (sd_cons (sd_setO 4 (eo_lst ad_nil) nd)
    (sd_cons (sd_for hp (id_seq (ed_var 1)) (gd_tup 2 (gd_cons (gd_name 5 nd) (gd_cons (gd_name 6 nd) gd_nil)))
    (sd_one (sd_ext 4 (ed_of (eo_lc nd (id_seq (ed_var 3)) (blk (own := [("more", 7), ("value", 8)]) rfl (of_decide_eq_true rfl) (of_decide_eq_true rfl) (of_decide_eq_true rfl) (of_decide_eq_true rfl)) (fun _ _ _ _ _ => (gd_tup 2 (gd_cons (gd_name 7 nd) (gd_cons (gd_name 8 nd) gd_nil)))) (fun _ _ _ _ _ => ptd_nil) (fun _ _ _ _ _ => (ed_tup (ad_cons (ed_bin od_add (ed_var 5) (ed_var 7)) (ad_cons (ed_call (ok_with_value T) (hr.mono (by omega)) T.m_with_value T.k_with_value T.b_with_value L2.takes0 fuel (aa_val (ed_var 6) (aa_val (ed_ix (ix_any hu1) (ed_var 2) ed_int) (aa_val (ed_var 8) aa_nil)))) ad_nil)))))))))
    (sd_one (sd_asg (ed_varF 4) (gd_name 1 nd))))))
    sd_nil)))
    (sd_one (sd_ret (ed_var 1)))))
theorem grp_values_of (T : Txt K mg) : ∀ r : Nat, FnOk P w K mg base (L2.CX P w) (1 + r) T.f_values_of T.d_values_of ["part"] (spD K T.cm 1 (F_values_of r)) ∧ FnOk P w K mg base (L2.CX P w) (1 + r) T.f_shapes T.d_shapes ["parts"] (spD K T.cm 1 (F_shapes r))
  | 0 => ⟨fn_none, fn_none⟩
  | r + 1 => by
    have ih := grp_values_of T r
    exact ⟨body_values_of (base := base) T (k := 1 + r) (by omega) ih.1 ih.2, body_shapes (base := base) T (k := 1 + r) (by omega) ih.1 ih.2⟩
theorem ok_values_of (T : Txt K mg) (r : Nat) : FnOk P w K mg base (L2.CX P w) (1 + r) T.f_values_of T.d_values_of ["part"] (spD K T.cm 1 (F_values_of r)) := (grp_values_of T r).1
theorem ok_shapes (T : Txt K mg) (r : Nat) : FnOk P w K mg base (L2.CX P w) (1 + r) T.f_shapes T.d_shapes ["parts"] (spD K T.cm 1 (F_shapes r)) := (grp_values_of T r).2
theorem sc_row_of : FnScope ["parts", "record", "path", "row", "part", "index", "one"] ["parts", "record", "path"] (defScope S_row_of) := ⟨rfl, rfl, rfl, by decide +kernel, rfl, by decide +kernel, by decide +kernel⟩
set_option maxHeartbeats 0 in
theorem body_row_of (T : Txt K mg) {k : Nat} (hk : 0 ≤ k) {c0 : Nat → List Sl → Res} (C0 : FnOk P w K mg base (L2.CX P w) k T.f_row_of T.d_row_of ["parts", "record", "path"] (spD K T.cm 3 c0)) : FnOk P w K mg base (L2.CX P w) (k + 1) T.f_row_of T.d_row_of ["parts", "record", "path"] (spD K T.cm 3 (defD [] 7 (B_row_of c0))) := by
  refine fn_D (G := ⟨T.cm, []⟩) T.F_row_of sc_row_of rfl fun fuel cdv A outer s H E hr => ?_
  have hu1 := L2.hu_of hr
  have hu64 := hr.units
  have nd := sc_row_of.nd
  have hc : (CXD P w K mg base ["parts", "record", "path", "row", "part", "index", "one"] "row_of" S_row_of T.f_row_of cdv A outer s H E).calm = true := rfl
  have hp : PassesOwn (model P w) (A.deeper (PyProof.Rows.envOfC "row_of" (defScope S_row_of) s.heap.objs.size T.f_row_of cdv)) (CXD P w K mg base ["parts", "record", "path", "row", "part", "index", "one"] "row_of" S_row_of T.f_row_of cdv A outer s H E).env (CXD P w K mg base ["parts", "record", "path", "row", "part", "index", "one"] "row_of" S_row_of T.f_row_of cdv A outer s H E).xe := L2.passes_of rfl
  have tk : L2.Takes (CXD P w K mg base ["parts", "record", "path", "row", "part", "index", "one"] "row_of" S_row_of T.f_row_of cdv A outer s H E) (WD E) := L2.takes_of rfl rfl rfl rfl
  exact (sd_cons (sd_setO 3 (eo_lst ad_nil) nd)
    (sd_cons (sd_for hp (id_seq (ed_var 0)) (gd_name 4 nd)
    (sd_one (sd_if (td_cmp (od_eq hu64) (ed_ix (ix_any hu1) (ed_var 4) ed_int) (ed_str [116, 101, 120, 116] rfl))
    (sd_one (sd_ext 3 (ed_callTy (cd_list hc) T.z_list bt_list (ad_cons (ed_ix (ix_any hu1) (ed_var 4) ed_int) ad_nil))))
    (sd_one (sd_if (td_cmp (od_eq hu64) (ed_ix (ix_any hu1) (ed_var 4) ed_int) (ed_str [102, 105, 101, 108, 100] rfl))
    (sd_one (sd_app 3 (ed_bin od_add (ed_var 2) (ed_tup (ad_cons (ed_ix (ix_any hu1) (ed_var 4) ed_int) ad_nil)))))
    (sd_one (sd_if (td_cmp (od_eq hu64) (ed_ix (ix_any hu1) (ed_var 4) ed_int) (ed_str [101, 97, 99, 104] rfl))
    (sd_one (sd_for hp (id_enum (ad_cons (ed_ix (ix_any hu1) (ed_var 1) (ed_ix (ix_any hu1) (ed_var 4) ed_int)) ad_nil) T.z_enumerate) (gd_tup 2 (gd_cons (gd_name 5 nd) (gd_cons (gd_name 6 nd) gd_nil)))
    (sd_cons (sd_ext 3 (ed_if (td_cmp od_gt (ed_var 5) ed_int) (ed_callTy (cd_list hc) T.z_list bt_list (ad_cons (ed_ix (ix_any hu1) (ed_var 4) ed_int) ad_nil)) (ed_lst ad_nil)))
    (sd_one (sd_ext 3 (ed_call C0 (hr.mono (by omega)) T.m_row_of T.k_row_of T.b_row_of tk fuel (aa_val (ed_ix (ix_any hu1) (ed_var 4) ed_int) (aa_val (ed_var 6) (aa_val (ed_bin od_add (ed_var 2) (ed_tup (ad_cons (ed_ix (ix_any hu1) (ed_var 4) ed_int) (ad_cons (ed_var 5) ad_nil)))) aa_nil)))))))))
    (sd_one (sd_if (td_cmp od_isnot (ed_ix (ix_any hu1) (ed_var 1) (ed_ix (ix_any hu1) (ed_var 4) ed_int)) ed_non)
    (sd_one (sd_ext 3 (ed_call C0 (hr.mono (by omega)) T.m_row_of T.k_row_of T.b_row_of tk fuel (aa_val (ed_ix (ix_any hu1) (ed_var 4) ed_int) (aa_val (ed_ix (ix_any hu1) (ed_var 1) (ed_ix (ix_any hu1) (ed_var 4) ed_int)) (aa_val (ed_bin od_add (ed_var 2) (ed_tup (ad_cons (ed_ix (ix_any hu1) (ed_var 4) ed_int) ad_nil))) aa_nil))))))
    sd_nil)))))))))
    (sd_one (sd_ret (ed_varF 3)))))
theorem grp_row_of (T : Txt K mg) : ∀ r : Nat, FnOk P w K mg base (L2.CX P w) (0 + r) T.f_row_of T.d_row_of ["parts", "record", "path"] (spD K T.cm 3 (F_row_of r))
  | 0 => fn_none
  | r + 1 => by
    have ih := grp_row_of T r
    exact body_row_of (base := base) T (k := 0 + r) (by omega) ih
theorem ok_row_of (T : Txt K mg) (r : Nat) : FnOk P w K mg base (L2.CX P w) (0 + r) T.f_row_of T.d_row_of ["parts", "record", "path"] (spD K T.cm 3 (F_row_of r)) := (grp_row_of T r)
theorem sc_worded : FnScope ["parts", "record", "path", "words", "result", "part", "value", "here", "index", "one"] ["parts", "record", "path", "words"] (defScope S_worded) := ⟨rfl, rfl, rfl, by decide +kernel, rfl, by decide +kernel, by decide +kernel⟩
set_option maxHeartbeats 0 in
theorem body_worded (T : Txt K mg) {k : Nat} (hk : 0 ≤ k) {c0 : Nat → List Sl → Res} (C0 : FnOk P w K mg base (L2.CX P w) k T.f_worded T.d_worded ["parts", "record", "path", "words"] (spD K T.cm 4 c0)) : FnOk P w K mg base (L2.CX P w) (k + 1) T.f_worded T.d_worded ["parts", "record", "path", "words"] (spD K T.cm 4 (defD [] 10 (B_worded c0))) := by
  refine fn_D (G := ⟨T.cm, []⟩) T.F_worded sc_worded rfl fun fuel cdv A outer s H E hr => ?_
  have hu1 := L2.hu_of hr
  have hu64 := hr.units
  have nd := sc_worded.nd
  have hc : (CXD P w K mg base ["parts", "record", "path", "words", "result", "part", "value", "here", "index", "one"] "worded" S_worded T.f_worded cdv A outer s H E).calm = true := rfl
  have hp : PassesOwn (model P w) (A.deeper (PyProof.Rows.envOfC "worded" (defScope S_worded) s.heap.objs.size T.f_worded cdv)) (CXD P w K mg base ["parts", "record", "path", "words", "result", "part", "value", "here", "index", "one"] "worded" S_worded T.f_worded cdv A outer s H E).env (CXD P w K mg base ["parts", "record", "path", "words", "result", "part", "value", "here", "index", "one"] "worded" S_worded T.f_worded cdv A outer s H E).xe := L2.passes_of rfl
  have tk : L2.Takes (CXD P w K mg base ["parts", "record", "path", "words", "result", "part", "value", "here", "index", "one"] "worded" S_worded T.f_worded cdv A outer s H E) (WD E) := L2.takes_of rfl rfl rfl rfl
  exact (sd_cons (sd_setO 4 eo_dicK nd)
    (sd_cons (sd_for hp (id_seq (ed_var 0)) (gd_name 5 nd)
    (sd_cons (sd_if (td_cmp (od_eq hu64) (ed_ix (ix_any hu1) (ed_var 5) ed_int) (ed_str [116, 101, 120, 116] rfl))
    (sd_one sd_continue)
    sd_nil)
    (sd_cons (sd_asg (ed_tup (ad_cons (ed_ix (ix_any hu1) (ed_var 1) (ed_ix (ix_any hu1) (ed_var 5) ed_int)) (ad_cons (ed_bin od_add (ed_var 2) (ed_tup (ad_cons (ed_ix (ix_any hu1) (ed_var 5) ed_int) ad_nil))) ad_nil))) (gd_tup 2 (gd_cons (gd_name 6 nd) (gd_cons (gd_name 7 nd) gd_nil))))
    (sd_one (sd_if (td_cmp (od_eq hu64) (ed_ix (ix_any hu1) (ed_var 5) ed_int) (ed_str [102, 105, 101, 108, 100] rfl))
    (sd_one (sd_dput 4 hu1 (ed_ix (ix_any hu1) (ed_var 5) ed_int) (ed_get2 hu1 (ed_var 3) (ed_var 7) (ed_var 6))))
    (sd_one (sd_if (td_cmp (od_eq hu64) (ed_ix (ix_any hu1) (ed_var 5) ed_int) (ed_str [101, 97, 99, 104] rfl))
    (sd_one (sd_dput 4 hu1 (ed_ix (ix_any hu1) (ed_var 5) ed_int) (ed_of (eo_lc nd (id_enum (ad_cons (ed_var 6) ad_nil) T.z_enumerate) (blk (own := [("index", 8), ("one", 9)]) rfl (of_decide_eq_true rfl) (of_decide_eq_true rfl) (of_decide_eq_true rfl) (of_decide_eq_true rfl)) (fun _ _ _ _ _ => (gd_tup 2 (gd_cons (gd_name 8 nd) (gd_cons (gd_name 9 nd) gd_nil)))) (fun _ _ _ _ _ => ptd_nil) (fun _ _ _ _ _ => (ed_call C0 (hr.mono (by omega)) T.m_worded T.k_worded T.b_worded L2.takes0 fuel (aa_val (ed_ix (ix_any hu1) (ed_var 5) ed_int) (aa_val (ed_var 9) (aa_val (ed_bin od_add (ed_var 7) (ed_tup (ad_cons (ed_var 8) ad_nil))) (aa_val (ed_var 3) aa_nil))))))))))
    (sd_one (sd_dput 4 hu1 (ed_ix (ix_any hu1) (ed_var 5) ed_int) (ed_if (td_cmp od_is (ed_var 6) ed_non) ed_non (ed_call C0 (hr.mono (by omega)) T.m_worded T.k_worded T.b_worded tk fuel (aa_val (ed_ix (ix_any hu1) (ed_var 5) ed_int) (aa_val (ed_var 6) (aa_val (ed_var 7) (aa_val (ed_var 3) aa_nil)))))))))))))))
    (sd_one (sd_ret (ed_varF 4)))))
theorem grp_worded (T : Txt K mg) : ∀ r : Nat, FnOk P w K mg base (L2.CX P w) (0 + r) T.f_worded T.d_worded ["parts", "record", "path", "words"] (spD K T.cm 4 (F_worded r))
  | 0 => fn_none
  | r + 1 => by
    have ih := grp_worded T r
    exact body_worded (base := base) T (k := 0 + r) (by omega) ih
theorem ok_worded (T : Txt K mg) (r : Nat) : FnOk P w K mg base (L2.CX P w) (0 + r) T.f_worded T.d_worded ["parts", "record", "path", "words"] (spD K T.cm 4 (F_worded r)) := (grp_worded T r)
theorem sc_words_for : FnScope ["one", "other", "first", "second", "path", "char"] ["one", "other"] (defScope S_words_for) := ⟨rfl, rfl, rfl, by decide +kernel, rfl, by decide +kernel, by decide +kernel⟩
set_option maxHeartbeats 0 in
theorem body_words_for (T : Txt K mg)    : FnOk P w K mg base (L2.CX P w) (0 + 1) T.f_words_for T.d_words_for ["one", "other"] (spD K T.cm 2 (defD [] 6 (B_words_for ))) := by
  refine fn_D (G := ⟨T.cm, []⟩) T.F_words_for sc_words_for rfl fun fuel cdv A outer s H E hr => ?_
  have hu1 := L2.hu_of hr
  have hu64 := hr.units
  have nd := sc_words_for.nd
  have hc : (CXD P w K mg base ["one", "other", "first", "second", "path", "char"] "words_for" S_words_for T.f_words_for cdv A outer s H E).calm = true := rfl
  have hp : PassesOwn (model P w) (A.deeper (PyProof.Rows.envOfC "words_for" (defScope S_words_for) s.heap.objs.size T.f_words_for cdv)) (CXD P w K mg base ["one", "other", "first", "second", "path", "char"] "words_for" S_words_for T.f_words_for cdv A outer s H E).env (CXD P w K mg base ["one", "other", "first", "second", "path", "char"] "words_for" S_words_for T.f_words_for cdv A outer s H E).xe := L2.passes_of rfl
  have tk : L2.Takes (CXD P w K mg base ["one", "other", "first", "second", "path", "char"] "words_for" S_words_for T.f_words_for cdv A outer s H E) (WD E) := L2.takes_of rfl rfl rfl rfl
  exact (sd_cons (sd_if (td_cmp (od_eq hu64) (ed_callB cd_len T.z_len bt_len (ad_cons (ed_var 0) ad_nil)) (ed_callB cd_len T.z_len bt_len (ad_cons (ed_var 1) ad_nil)))
    (sd_one (sd_for hp (id_zip (ad_cons (ed_var 0) (ad_cons (ed_var 1) ad_nil)) T.z_zip) (gd_tup 2 (gd_cons (gd_name 2 nd) (gd_cons (gd_name 3 nd) gd_nil)))
    (sd_one (sd_if (td_cmp (od_ne hu64) (ed_var 2) (ed_var 3))
    (sd_cons (sd_if (td_w (tw_and (td_of (ed_callB cd_isi T.z_isinstance bt_isinstance (ad_cons (ed_var 2) (ad_cons (ed_ty "tuple" T.z_tuple bt_tuple) ad_nil)))) (tw_and1 (td_of (ed_callB cd_isi T.z_isinstance bt_isinstance (ad_cons (ed_var 3) (ad_cons (ed_ty "tuple" T.z_tuple bt_tuple) ad_nil)))))))
    (sd_one (sd_ret (ed_of (eo_disp1T hu1 (ed_var 2) (ed_str [98] rfl)))))
    sd_nil)
    (sd_cons (sd_asg (ed_if (td_of (ed_callB cd_isi T.z_isinstance bt_isinstance (ad_cons (ed_var 2) (ad_cons (ed_ty "tuple" T.z_tuple bt_tuple) ad_nil)))) (ed_tup (ad_cons (ed_var 2) (ad_cons (ed_var 3) ad_nil))) (ed_tup (ad_cons (ed_var 3) (ad_cons (ed_var 2) ad_nil)))) (gd_tup 2 (gd_cons (gd_name 4 nd) (gd_cons (gd_name 5 nd) gd_nil))))
    (sd_one (sd_ret (ed_if (td_of (ed_callB cd_isi T.z_isinstance bt_isinstance (ad_cons (ed_var 4) (ad_cons (ed_ty "tuple" T.z_tuple bt_tuple) ad_nil)))) (ed_of (eo_disp1T hu1 (ed_var 4) (ed_if (td_cmp (od_eq hu64) (ed_var 5) (ed_str [97] rfl)) (ed_str [98] rfl) (ed_str [97] rfl)))) (ed_of eo_dicT))))))
    sd_nil))))
    sd_nil)
    (sd_one (sd_ret (ed_of eo_dicT))))
theorem ok_words_for (T : Txt K mg) : FnOk P w K mg base (L2.CX P w) 1 T.f_words_for T.d_words_for ["one", "other"] (spD K T.cm 2 F_words_for) := body_words_for T
theorem sc_difference : FnScope ["template", "other", "best", "weight", "record", "one", "two"] ["template", "other"] (defScope S_difference) := ⟨rfl, rfl, rfl, by decide +kernel, rfl, by decide +kernel, by decide +kernel⟩
set_option maxHeartbeats 0 in
theorem body_difference (T : Txt K mg)    : FnOk P w K mg base (L2.CX P w) (14 + 1) T.f_difference T.d_difference ["template", "other"] (spD K T.cm 2 (defD [] 7 (B_difference ))) := by
  refine fn_D (G := ⟨T.cm, []⟩) T.F_difference sc_difference rfl fun fuel cdv A outer s H E hr => ?_
  have hu1 := L2.hu_of hr
  have hu64 := hr.units
  have nd := sc_difference.nd
  have hc : (CXD P w K mg base ["template", "other", "best", "weight", "record", "one", "two"] "difference" S_difference T.f_difference cdv A outer s H E).calm = true := rfl
  have hp : PassesOwn (model P w) (A.deeper (PyProof.Rows.envOfC "difference" (defScope S_difference) s.heap.objs.size T.f_difference cdv)) (CXD P w K mg base ["template", "other", "best", "weight", "record", "one", "two"] "difference" S_difference T.f_difference cdv A outer s H E).env (CXD P w K mg base ["template", "other", "best", "weight", "record", "one", "two"] "difference" S_difference T.f_difference cdv A outer s H E).xe := L2.passes_of rfl
  have tk : L2.Takes (CXD P w K mg base ["template", "other", "best", "weight", "record", "one", "two"] "difference" S_difference T.f_difference cdv A outer s H E) (WD E) := L2.takes_of rfl rfl rfl rfl
  exact (sd_cons (sd_if (td_not (td_of (ed_call (ok_alike T) (hr.mono (by omega)) T.m_alike T.k_alike T.b_alike tk fuel (aa_val (ed_var 0) (aa_val (ed_var 1) aa_nil)))))
    (sd_one (sd_raise0 2 T.x_NotAlike tk))
    sd_nil)
    (sd_cons (sd_asg ed_non (gd_name 2 nd))
    (sd_cons (sd_for hp (id_seq (ed_call (ok_shapes T 8) (hr.mono (by omega)) T.m_shapes T.k_shapes T.b_shapes tk fuel (aa_val (ed_var 0) aa_nil))) (gd_tup 2 (gd_cons (gd_name 3 nd) (gd_cons (gd_name 4 nd) gd_nil)))
    (sd_one (sd_if (td_w (tw_or (td_cmp od_is (ed_var 2) ed_non) (tw_or1 (td_cmp od_lt (ed_var 3) (ed_ix (ix_any hu1) (ed_var 2) ed_int)))))
    (sd_cons (sd_par 5 6 (ad_cons (ed_call (ok_row_of T 8) (hr.mono (by omega)) T.m_row_of T.k_row_of T.b_row_of tk fuel (aa_val (ed_var 0) (aa_val (ed_var 4) (aa_val (ed_tup ad_nil) aa_nil)))) (ad_cons (ed_call (ok_row_of T 8) (hr.mono (by omega)) T.m_row_of T.k_row_of T.b_row_of tk fuel (aa_val (ed_var 1) (aa_val (ed_var 4) (aa_val (ed_tup ad_nil) aa_nil)))) ad_nil)) nd)
    (sd_one (sd_if (td_cmp (od_ne hu64) (ed_var 5) (ed_var 6))
    (sd_one (sd_asg (ed_tup (ad_cons (ed_var 3) (ad_cons (ed_call (ok_worded T 8) (hr.mono (by omega)) T.m_worded T.k_worded T.b_worded tk fuel (aa_val (ed_var 0) (aa_val (ed_var 4) (aa_val (ed_tup ad_nil) (aa_val (ed_call (ok_words_for T) (hr.mono (by omega)) T.m_words_for T.k_words_for T.b_words_for tk fuel (aa_val (ed_var 5) (aa_val (ed_var 6) aa_nil))) aa_nil))))) ad_nil))) (gd_name 2 nd)))
    sd_nil)))
    sd_nil)))
    (sd_one (sd_ret (ed_if (td_cmp od_is (ed_var 2) ed_non) ed_non (ed_ix (ix_any hu1) (ed_var 2) ed_int)))))))
theorem ok_difference (T : Txt K mg) : FnOk P w K mg base (L2.CX P w) 15 T.f_difference T.d_difference ["template", "other"] (spD K T.cm 2 F_difference) := body_difference T
theorem sc_law_draw : FnScope ["_law_script", "_law_town", "_law_many_here", "_law_at", "_law_mixed", "_law_one"] ["_law_script", "_law_town", "_law_many_here"] (defScope S_law_draw) := ⟨rfl, rfl, rfl, by decide +kernel, rfl, by decide +kernel, by decide +kernel⟩
set_option maxHeartbeats 0 in
theorem body_law_draw (T : Txt K mg)    : FnOk P w K mg base (L2.CX P w) (0 + 1) T.f__law_draw T.d__law_draw ["_law_script", "_law_town", "_law_many_here"] (spD K T.cm 3 (defD [1] 6 (B_law_draw ))) := by
  refine fn_D (G := ⟨T.cm, [1]⟩) T.F__law_draw sc_law_draw rfl fun fuel cdv A outer s H E hr => ?_
  have hu1 := L2.hu_of hr
  have hu64 := hr.units
  have nd := sc_law_draw.nd
  have hc : (CXD P w K mg base ["_law_script", "_law_town", "_law_many_here", "_law_at", "_law_mixed", "_law_one"] "_law_draw" S_law_draw T.f__law_draw cdv A outer s H E).calm = true := rfl
  have hp : PassesOwn (model P w) (A.deeper (PyProof.Rows.envOfC "_law_draw" (defScope S_law_draw) s.heap.objs.size T.f__law_draw cdv)) (CXD P w K mg base ["_law_script", "_law_town", "_law_many_here", "_law_at", "_law_mixed", "_law_one"] "_law_draw" S_law_draw T.f__law_draw cdv A outer s H E).env (CXD P w K mg base ["_law_script", "_law_town", "_law_many_here", "_law_at", "_law_mixed", "_law_one"] "_law_draw" S_law_draw T.f__law_draw cdv A outer s H E).xe := L2.passes_of rfl
  have tk : L2.Takes (CXD P w K mg base ["_law_script", "_law_town", "_law_many_here", "_law_at", "_law_mixed", "_law_one"] "_law_draw" S_law_draw T.f__law_draw cdv A outer s H E) (WD E) := L2.takes_of rfl rfl rfl rfl
  exact (sd_cons (sd_if (td_cmp od_gt (ed_ixOwn 1 hu1 ed_int) ed_int)
    (sd_cons (sd_asg (ed_bin od_mod (ed_ixOwn 1 hu1 ed_int) (ed_var 2)) (gd_name 5 nd))
    (sd_cons (sd_setIx 1 ed_int (ed_bin od_fdiv (ed_ixOwn 1 hu1 ed_int) (ed_var 2)))
    (sd_one (sd_ret (ed_var 5)))))
    sd_nil)
    (sd_cons (sd_asg (ed_ixOwn 1 hu1 ed_int) (gd_name 3 nd))
    (sd_cons (sd_augIx 1 0 ip_add ed_int)
    (sd_cons (sd_if (td_cmp (od_eq hu64) (ed_var 0) (ed_lst ad_nil))
    (sd_one (sd_ret (ed_bin od_mod (ed_var 3) (ed_var 2))))
    sd_nil)
    (sd_cons (sd_if (td_w (tw_and (td_cmp od_lt (ed_var 3) (ed_callB cd_len T.z_len bt_len (ad_cons (ed_var 0) ad_nil))) (tw_and1 (td_cmp od_ge (ed_ix (ix_any hu1) (ed_var 0) (ed_var 3)) (ed_bin od_pow ed_int ed_int)))))
    (sd_cons (sd_setIx 1 ed_int (ed_bin od_mod (ed_bin od_fdiv (ed_ix (ix_any hu1) (ed_var 0) (ed_var 3)) (ed_var 2)) (ed_bin od_mul (ed_bin od_pow ed_int ed_int) (ed_bin od_pow ed_int ed_int))))
    (sd_one (sd_ret (ed_bin od_mod (ed_ix (ix_any hu1) (ed_var 0) (ed_var 3)) (ed_var 2)))))
    sd_nil)
    (sd_cons (sd_asg (ed_bin od_mod (ed_bin od_add (ed_bin od_add (ed_bin od_mul (ed_ix (ix_any hu1) (ed_var 0) (ed_bin od_mod (ed_var 3) (ed_callB cd_len T.z_len bt_len (ad_cons (ed_var 0) ad_nil)))) ed_int) (ed_bin od_mul ed_int (ed_var 3))) ed_int) ed_int) (gd_name 4 nd))
    (sd_one (sd_ret (ed_bin od_mod (ed_bin od_mod (ed_bin od_mod (ed_bin od_pow (ed_var 4) ed_int) ed_int) ed_int) (ed_var 2))))))))))
theorem ok_law_draw (T : Txt K mg) : FnOk P w K mg base (L2.CX P w) 1 T.f__law_draw T.d__law_draw ["_law_script", "_law_town", "_law_many_here"] (spD K T.cm 3 F_law_draw) := body_law_draw T
theorem sc_law_pick : FnScope ["_law_script", "_law_town", "_law_some"] ["_law_script", "_law_town", "_law_some"] (defScope S_law_pick) := ⟨rfl, rfl, rfl, by decide +kernel, rfl, by decide +kernel, by decide +kernel⟩
set_option maxHeartbeats 0 in
theorem body_law_pick (T : Txt K mg)    : FnOk P w K mg base (L2.CX P w) (1 + 1) T.f__law_pick T.d__law_pick ["_law_script", "_law_town", "_law_some"] (spD K T.cm 3 (defD [1] 3 (B_law_pick ))) := by
  refine fn_D (G := ⟨T.cm, [1]⟩) T.F__law_pick sc_law_pick rfl fun fuel cdv A outer s H E hr => ?_
  have hu1 := L2.hu_of hr
  have hu64 := hr.units
  have nd := sc_law_pick.nd
  have hc : (CXD P w K mg base ["_law_script", "_law_town", "_law_some"] "_law_pick" S_law_pick T.f__law_pick cdv A outer s H E).calm = true := rfl
  have hp : PassesOwn (model P w) (A.deeper (PyProof.Rows.envOfC "_law_pick" (defScope S_law_pick) s.heap.objs.size T.f__law_pick cdv)) (CXD P w K mg base ["_law_script", "_law_town", "_law_some"] "_law_pick" S_law_pick T.f__law_pick cdv A outer s H E).env (CXD P w K mg base ["_law_script", "_law_town", "_law_some"] "_law_pick" S_law_pick T.f__law_pick cdv A outer s H E).xe := L2.passes_of rfl
  have tk : L2.Takes (CXD P w K mg base ["_law_script", "_law_town", "_law_some"] "_law_pick" S_law_pick T.f__law_pick cdv A outer s H E) (WD E) := L2.takes_of rfl rfl rfl rfl
  exact (sd_one (sd_ret (ed_ix (ix_any hu1) (ed_var 2) (ed_call (ok_law_draw T) (hr.mono (by omega)) T.m__law_draw T.k__law_draw T.b__law_draw tk fuel (aa_val (ed_var 0) (aa_own 1 (aa_val (ed_callB cd_len T.z_len bt_len (ad_cons (ed_var 2) ad_nil)) aa_nil)))))))
theorem ok_law_pick (T : Txt K mg) : FnOk P w K mg base (L2.CX P w) 2 T.f__law_pick T.d__law_pick ["_law_script", "_law_town", "_law_some"] (spD K T.cm 3 F_law_pick) := body_law_pick T
theorem sc_law_parts : FnScope ["_law_script", "_law_town", "_law_depth", "_law_most", "_law_signs", "_law_made", "_law_name", "_law_kind", "_law_inside"] ["_law_script", "_law_town", "_law_depth", "_law_most", "_law_signs"] (defScope S_law_parts) := ⟨rfl, rfl, rfl, by decide +kernel, rfl, by decide +kernel, by decide +kernel⟩
set_option maxHeartbeats 0 in
theorem body_law_parts (T : Txt K mg) {k : Nat} (hk : 2 ≤ k) {c0 : Nat → List Sl → Res} (C0 : FnOk P w K mg base (L2.CX P w) k T.f__law_parts T.d__law_parts ["_law_script", "_law_town", "_law_depth", "_law_most", "_law_signs"] (spD K T.cm 5 c0)) : FnOk P w K mg base (L2.CX P w) (k + 1) T.f__law_parts T.d__law_parts ["_law_script", "_law_town", "_law_depth", "_law_most", "_law_signs"] (spD K T.cm 5 (defD [1] 9 (B_law_parts c0))) := by
  refine fn_D (G := ⟨T.cm, [1]⟩) T.F__law_parts sc_law_parts rfl fun fuel cdv A outer s H E hr => ?_
  have hu1 := L2.hu_of hr
  have hu64 := hr.units
  have nd := sc_law_parts.nd
  have hc : (CXD P w K mg base ["_law_script", "_law_town", "_law_depth", "_law_most", "_law_signs", "_law_made", "_law_name", "_law_kind", "_law_inside"] "_law_parts" S_law_parts T.f__law_parts cdv A outer s H E).calm = true := rfl
  have hp : PassesOwn (model P w) (A.deeper (PyProof.Rows.envOfC "_law_parts" (defScope S_law_parts) s.heap.objs.size T.f__law_parts cdv)) (CXD P w K mg base ["_law_script", "_law_town", "_law_depth", "_law_most", "_law_signs", "_law_made", "_law_name", "_law_kind", "_law_inside"] "_law_parts" S_law_parts T.f__law_parts cdv A outer s H E).env (CXD P w K mg base ["_law_script", "_law_town", "_law_depth", "_law_most", "_law_signs", "_law_made", "_law_name", "_law_kind", "_law_inside"] "_law_parts" S_law_parts T.f__law_parts cdv A outer s H E).xe := L2.passes_of rfl
  have tk : L2.Takes (CXD P w K mg base ["_law_script", "_law_town", "_law_depth", "_law_most", "_law_signs", "_law_made", "_law_name", "_law_kind", "_law_inside"] "_law_parts" S_law_parts T.f__law_parts cdv A outer s H E) (WD E) := L2.takes_of rfl rfl rfl rfl
  exact (sd_cons (sd_setO 5 (eo_lst ad_nil) nd)
    (sd_cons (sd_for hp (id_seq (ed_slice (ed_lst (ad_cons (ed_str [97] rfl) (ad_cons (ed_str [98] rfl) (ad_cons (ed_str [99, 100] rfl) (ad_cons (ed_str [101] rfl) ad_nil))))) od_none (od_some (ed_bin od_add ed_int (ed_call (ok_law_draw T) (hr.mono (by omega)) T.m__law_draw T.k__law_draw T.b__law_draw tk fuel (aa_val (ed_var 0) (aa_own 1 (aa_val (ed_var 3) aa_nil)))))))) (gd_name 6 nd)
    (sd_cons (sd_asg (ed_call (ok_law_pick T) (hr.mono (by omega)) T.m__law_pick T.k__law_pick T.b__law_pick tk fuel (aa_val (ed_var 0) (aa_own 1 (aa_val (ed_lst (ad_cons (ed_str [116, 101, 120, 116] rfl) (ad_cons (ed_str [102, 105, 101, 108, 100] rfl) (ad_cons (ed_str [102, 105, 101, 108, 100] rfl) (ad_cons (ed_str [105, 102] rfl) (ad_cons (ed_str [101, 97, 99, 104] rfl) ad_nil)))))) aa_nil)))) (gd_name 7 nd))
    (sd_one (sd_if (td_w (tw_and (td_cmp (od_eq hu64) (ed_var 7) (ed_str [116, 101, 120, 116] rfl)) (tw_and1 (td_w (tw_or (td_eqOwn 5 hu64 (ed_lst ad_nil)) (tw_or1 (td_cmp (od_ne hu64) (ed_ix (ix_any hu1) (ed_ixOwn 5 hu1 (ed_neg ed_int)) ed_int) (ed_str [116, 101, 120, 116] rfl))))))))
    (sd_one (sd_app 5 (ed_tup (ad_cons (ed_var 7) (ad_cons (ed_call (ok_law_pick T) (hr.mono (by omega)) T.m__law_pick T.k__law_pick T.b__law_pick tk fuel (aa_val (ed_var 0) (aa_own 1 (aa_val (ed_var 4) aa_nil)))) ad_nil)))))
    (sd_one (sd_if (td_w (tw_or (td_cmp (od_in hu1) (ed_var 7) (ed_tup (ad_cons (ed_str [116, 101, 120, 116] rfl) (ad_cons (ed_str [102, 105, 101, 108, 100] rfl) ad_nil)))) (tw_or1 (td_cmp (od_eq hu64) (ed_var 2) ed_int))))
    (sd_one (sd_app 5 (ed_tup (ad_cons (ed_str [102, 105, 101, 108, 100] rfl) (ad_cons (ed_var 6) ad_nil)))))
    (sd_one (sd_if (td_cmp (od_eq hu64) (ed_var 7) (ed_str [105, 102] rfl))
    (sd_one (sd_app 5 (ed_tup (ad_cons (ed_var 7) (ad_cons (ed_var 6) (ad_cons (ed_call C0 (hr.mono (by omega)) T.m__law_parts T.k__law_parts T.b__law_parts tk fuel (aa_val (ed_var 0) (aa_own 1 (aa_val (ed_bin od_sub (ed_var 2) ed_int) (aa_val ed_int (aa_val (ed_var 4) aa_nil)))))) ad_nil))))))
    (sd_cons (sd_asg (ed_bin od_add (ed_call C0 (hr.mono (by omega)) T.m__law_parts T.k__law_parts T.b__law_parts tk fuel (aa_val (ed_var 0) (aa_own 1 (aa_val (ed_bin od_sub (ed_var 2) ed_int) (aa_val ed_int (aa_val (ed_var 4) aa_nil)))))) (ed_tup (ad_cons (ed_tup (ad_cons (ed_str [102, 105, 101, 108, 100] rfl) (ad_cons (ed_str [122] rfl) ad_nil))) ad_nil))) (gd_name 8 nd))
    (sd_one (sd_app 5 (ed_tup (ad_cons (ed_var 7) (ad_cons (ed_var 6) (ad_cons (ed_call (ok_law_pick T) (hr.mono (by omega)) T.m__law_pick T.k__law_pick T.b__law_pick tk fuel (aa_val (ed_var 0) (aa_own 1 (aa_val (ed_bin od_add (ed_lst (ad_cons (ed_str [] rfl) (ad_cons (ed_str [44] rfl) ad_nil))) (ed_var 4)) aa_nil)))) (ad_cons (ed_slice (ed_var 8) (od_some (ed_call (ok_law_draw T) (hr.mono (by omega)) T.m__law_draw T.k__law_draw T.b__law_draw tk fuel (aa_val (ed_var 0) (aa_own 1 (aa_val ed_int aa_nil))))) od_none) ad_nil))))))))))))))))
    (sd_one (sd_ret (ed_callTy cd_tuple T.z_tuple bt_tuple (ad_cons (ed_varF 5) ad_nil))))))
theorem grp_law_parts (T : Txt K mg) : ∀ r : Nat, FnOk P w K mg base (L2.CX P w) (2 + r) T.f__law_parts T.d__law_parts ["_law_script", "_law_town", "_law_depth", "_law_most", "_law_signs"] (spD K T.cm 5 (F_law_parts r))
  | 0 => fn_none
  | r + 1 => by
    have ih := grp_law_parts T r
    exact body_law_parts (base := base) T (k := 2 + r) (by omega) ih
theorem ok_law_parts (T : Txt K mg) (r : Nat) : FnOk P w K mg base (L2.CX P w) (2 + r) T.f__law_parts T.d__law_parts ["_law_script", "_law_town", "_law_depth", "_law_most", "_law_signs"] (spD K T.cm 5 (F_law_parts r)) := (grp_law_parts T r)
theorem sc_law_many : FnScope ["_law_parts_here", "_law_counts", "_law_part", "_law_one", "_law_other"] ["_law_parts_here"] (defScope S_law_many) := ⟨rfl, rfl, rfl, by decide +kernel, rfl, by decide +kernel, by decide +kernel⟩
set_option maxHeartbeats 0 in
theorem body_law_many (T : Txt K mg) {k : Nat} (hk : 0 ≤ k) {c0 : Nat → List Sl → Res} (C0 : FnOk P w K mg base (L2.CX P w) k T.f__law_many T.d__law_many ["_law_parts_here"] (spD K T.cm 1 c0)) : FnOk P w K mg base (L2.CX P w) (k + 1) T.f__law_many T.d__law_many ["_law_parts_here"] (spD K T.cm 1 (defD [] 5 (B_law_many c0))) := by
  refine fn_D (G := ⟨T.cm, []⟩) T.F__law_many sc_law_many rfl fun fuel cdv A outer s H E hr => ?_
  have hu1 := L2.hu_of hr
  have hu64 := hr.units
  have nd := sc_law_many.nd
  have hc : (CXD P w K mg base ["_law_parts_here", "_law_counts", "_law_part", "_law_one", "_law_other"] "_law_many" S_law_many T.f__law_many cdv A outer s H E).calm = true := rfl
  have hp : PassesOwn (model P w) (A.deeper (PyProof.Rows.envOfC "_law_many" (defScope S_law_many) s.heap.objs.size T.f__law_many cdv)) (CXD P w K mg base ["_law_parts_here", "_law_counts", "_law_part", "_law_one", "_law_other"] "_law_many" S_law_many T.f__law_many cdv A outer s H E).env (CXD P w K mg base ["_law_parts_here", "_law_counts", "_law_part", "_law_one", "_law_other"] "_law_many" S_law_many T.f__law_many cdv A outer s H E).xe := L2.passes_of rfl
  have tk : L2.Takes (CXD P w K mg base ["_law_parts_here", "_law_counts", "_law_part", "_law_one", "_law_other"] "_law_many" S_law_many T.f__law_many cdv A outer s H E) (WD E) := L2.takes_of rfl rfl rfl rfl
  exact (sd_cons (sd_setLcV 1 nd (id_seq (ed_var 0)) (blk (own := [("_law_part", 2)]) rfl (of_decide_eq_true rfl) (of_decide_eq_true rfl) (of_decide_eq_true rfl) (of_decide_eq_true rfl)) (fun _ _ _ _ _ => (gd_name 2 nd)) (fun _ _ _ _ _ => (ptd_one (td_cmp (od_in hu1) (ed_ix (ix_any hu1) (ed_var 2) ed_int) (ed_tup (ad_cons (ed_str [105, 102] rfl) (ad_cons (ed_str [101, 97, 99, 104] rfl) ad_nil)))))) (fun _ _ _ _ _ => (ed_call C0 (hr.mono (by omega)) T.m__law_many T.k__law_many T.b__law_many L2.takes0 fuel (aa_val (ed_ix (ix_any hu1) (ed_var 2) (ed_neg ed_int)) aa_nil))) (by exact L2.sw_true rfl rfl rfl rfl))
    (sd_one (sd_ret (ed_tup (ad_cons (ed_bin od_add (ed_callB cd_len T.z_len bt_len (ad_cons (ed_var 0) ad_nil)) (ed_callB (cd_sum hc) T.z_sum bt_sum (ad_cons (ed_of (eo_lc nd (id_seq (ed_var 1)) (blk (own := [("_law_one", 3), ("_law_other", 4)]) rfl (of_decide_eq_true rfl) (of_decide_eq_true rfl) (of_decide_eq_true rfl) (of_decide_eq_true rfl)) (fun _ _ _ _ _ => (gd_tup 2 (gd_cons (gd_name 3 nd) (gd_cons (gd_name 4 nd) gd_nil)))) (fun _ _ _ _ _ => ptd_nil) (fun _ _ _ _ _ => (ed_var 3)))) ad_nil))) (ad_cons (ed_bin od_add (ed_callB cd_len T.z_len bt_len (ad_cons (ed_var 1) ad_nil)) (ed_callB (cd_sum hc) T.z_sum bt_sum (ad_cons (ed_of (eo_lc nd (id_seq (ed_var 1)) (blk (own := [("_law_one", 3), ("_law_other", 4)]) rfl (of_decide_eq_true rfl) (of_decide_eq_true rfl) (of_decide_eq_true rfl) (of_decide_eq_true rfl)) (fun _ _ _ _ _ => (gd_tup 2 (gd_cons (gd_name 3 nd) (gd_cons (gd_name 4 nd) gd_nil)))) (fun _ _ _ _ _ => ptd_nil) (fun _ _ _ _ _ => (ed_var 4)))) ad_nil))) ad_nil))))))
theorem grp_law_many (T : Txt K mg) : ∀ r : Nat, FnOk P w K mg base (L2.CX P w) (0 + r) T.f__law_many T.d__law_many ["_law_parts_here"] (spD K T.cm 1 (F_law_many r))
  | 0 => fn_none
  | r + 1 => by
    have ih := grp_law_many T r
    exact body_law_many (base := base) T (k := 0 + r) (by omega) ih
theorem ok_law_many (T : Txt K mg) (r : Nat) : FnOk P w K mg base (L2.CX P w) (0 + r) T.f__law_many T.d__law_many ["_law_parts_here"] (spD K T.cm 1 (F_law_many r)) := (grp_law_many T r)
theorem sc_law_template : FnScope ["_law_script", "_law_town", "_law_most", "_law_signs", "_law_parts_here"] ["_law_script", "_law_town", "_law_most", "_law_signs"] (defScope S_law_template) := ⟨rfl, rfl, rfl, by decide +kernel, rfl, by decide +kernel, by decide +kernel⟩
set_option maxHeartbeats 0 in
theorem body_law_template (T : Txt K mg)    : FnOk P w K mg base (L2.CX P w) (10 + 1) T.f__law_template T.d__law_template ["_law_script", "_law_town", "_law_most", "_law_signs"] (spD K T.cm 4 (defD [1] 5 (B_law_template ))) := by
  refine fn_D (G := ⟨T.cm, [1]⟩) T.F__law_template sc_law_template rfl fun fuel cdv A outer s H E hr => ?_
  have hu1 := L2.hu_of hr
  have hu64 := hr.units
  have nd := sc_law_template.nd
  have hc : (CXD P w K mg base ["_law_script", "_law_town", "_law_most", "_law_signs", "_law_parts_here"] "_law_template" S_law_template T.f__law_template cdv A outer s H E).calm = true := rfl
  have hp : PassesOwn (model P w) (A.deeper (PyProof.Rows.envOfC "_law_template" (defScope S_law_template) s.heap.objs.size T.f__law_template cdv)) (CXD P w K mg base ["_law_script", "_law_town", "_law_most", "_law_signs", "_law_parts_here"] "_law_template" S_law_template T.f__law_template cdv A outer s H E).env (CXD P w K mg base ["_law_script", "_law_town", "_law_most", "_law_signs", "_law_parts_here"] "_law_template" S_law_template T.f__law_template cdv A outer s H E).xe := L2.passes_of rfl
  have tk : L2.Takes (CXD P w K mg base ["_law_script", "_law_town", "_law_most", "_law_signs", "_law_parts_here"] "_law_template" S_law_template T.f__law_template cdv A outer s H E) (WD E) := L2.takes_of rfl rfl rfl rfl
  exact (sd_cons (sd_asg (ed_call (ok_law_parts T 8) (hr.mono (by omega)) T.m__law_parts T.k__law_parts T.b__law_parts tk fuel (aa_val (ed_var 0) (aa_own 1 (aa_val (ed_bin od_add ed_int (ed_call (ok_law_draw T) (hr.mono (by omega)) T.m__law_draw T.k__law_draw T.b__law_draw tk fuel (aa_val (ed_var 0) (aa_own 1 (aa_val ed_int aa_nil))))) (aa_val (ed_var 2) (aa_val (ed_var 3) aa_nil)))))) (gd_name 4 nd))
    (sd_cons (sd_while fuel hp (td_w (tw_or (td_cmp od_gt (ed_ix (ix_any hu1) (ed_call (ok_law_many T 8) (hr.mono (by omega)) T.m__law_many T.k__law_many T.b__law_many tk fuel (aa_val (ed_var 4) aa_nil)) ed_int) ed_int) (tw_or1 (td_cmp od_gt (ed_ix (ix_any hu1) (ed_call (ok_law_many T 8) (hr.mono (by omega)) T.m__law_many T.k__law_many T.b__law_many tk fuel (aa_val (ed_var 4) aa_nil)) ed_int) ed_int))))
    (sd_one (sd_asg (ed_slice (ed_var 4) od_none (od_some (ed_neg ed_int))) (gd_name 4 nd))))
    (sd_one (sd_ret (ed_if (td_cmp (od_ne hu64) (ed_var 4) (ed_tup ad_nil)) (ed_var 4) (ed_tup (ad_cons (ed_tup (ad_cons (ed_str [102, 105, 101, 108, 100] rfl) (ad_cons (ed_str [97] rfl) ad_nil))) ad_nil)))))))
theorem ok_law_template (T : Txt K mg) : FnOk P w K mg base (L2.CX P w) 11 T.f__law_template T.d__law_template ["_law_script", "_law_town", "_law_most", "_law_signs"] (spD K T.cm 4 F_law_template) := body_law_template T
theorem sc_law_record : FnScope ["_law_script", "_law_town", "_law_parts_here", "_law_made", "_law_part", "_law_k"] ["_law_script", "_law_town", "_law_parts_here"] (defScope S_law_record) := ⟨rfl, rfl, rfl, by decide +kernel, rfl, by decide +kernel, by decide +kernel⟩
set_option maxHeartbeats 0 in
theorem body_law_record (T : Txt K mg) {k : Nat} (hk : 2 ≤ k) {c0 : Nat → List Sl → Res} (C0 : FnOk P w K mg base (L2.CX P w) k T.f__law_record T.d__law_record ["_law_script", "_law_town", "_law_parts_here"] (spD K T.cm 3 c0)) : FnOk P w K mg base (L2.CX P w) (k + 1) T.f__law_record T.d__law_record ["_law_script", "_law_town", "_law_parts_here"] (spD K T.cm 3 (defD [1] 6 (B_law_record c0))) := by
  refine fn_D (G := ⟨T.cm, [1]⟩) T.F__law_record sc_law_record rfl fun fuel cdv A outer s H E hr => ?_
  have hu1 := L2.hu_of hr
  have hu64 := hr.units
  have nd := sc_law_record.nd
  have hc : (CXD P w K mg base ["_law_script", "_law_town", "_law_parts_here", "_law_made", "_law_part", "_law_k"] "_law_record" S_law_record T.f__law_record cdv A outer s H E).calm = true := rfl
  have hp : PassesOwn (model P w) (A.deeper (PyProof.Rows.envOfC "_law_record" (defScope S_law_record) s.heap.objs.size T.f__law_record cdv)) (CXD P w K mg base ["_law_script", "_law_town", "_law_parts_here", "_law_made", "_law_part", "_law_k"] "_law_record" S_law_record T.f__law_record cdv A outer s H E).env (CXD P w K mg base ["_law_script", "_law_town", "_law_parts_here", "_law_made", "_law_part", "_law_k"] "_law_record" S_law_record T.f__law_record cdv A outer s H E).xe := L2.passes_of rfl
  have tk : L2.Takes (CXD P w K mg base ["_law_script", "_law_town", "_law_parts_here", "_law_made", "_law_part", "_law_k"] "_law_record" S_law_record T.f__law_record cdv A outer s H E) (WD E) := L2.takes_of rfl rfl rfl rfl
  exact (sd_cons (sd_setO 3 eo_dicK nd)
    (sd_cons (sd_for hp (id_seq (ed_var 2)) (gd_name 4 nd)
    (sd_one (sd_if (td_cmp (od_eq hu64) (ed_ix (ix_any hu1) (ed_var 4) ed_int) (ed_str [102, 105, 101, 108, 100] rfl))
    (sd_one (sd_dput 3 hu1 (ed_ix (ix_any hu1) (ed_var 4) ed_int) (ed_call (ok_law_pick T) (hr.mono (by omega)) T.m__law_pick T.k__law_pick T.b__law_pick tk fuel (aa_val (ed_var 0) (aa_own 1 (aa_val (ed_lst (ad_cons (ed_str [97] rfl) (ad_cons (ed_str [98] rfl) (ad_cons (ed_str [97, 98] rfl) (ad_cons (ed_str [98, 97] rfl) (ad_cons (ed_str [99] rfl) (ad_cons (ed_str [97, 97, 98] rfl) ad_nil))))))) aa_nil))))))
    (sd_one (sd_if (td_cmp (od_eq hu64) (ed_ix (ix_any hu1) (ed_var 4) ed_int) (ed_str [105, 102] rfl))
    (sd_one (sd_dput 3 hu1 (ed_ix (ix_any hu1) (ed_var 4) ed_int) (ed_if (td_cmp (od_eq hu64) (ed_call (ok_law_draw T) (hr.mono (by omega)) T.m__law_draw T.k__law_draw T.b__law_draw tk fuel (aa_val (ed_var 0) (aa_own 1 (aa_val ed_int aa_nil)))) ed_int) ed_non (ed_call C0 (hr.mono (by omega)) T.m__law_record T.k__law_record T.b__law_record tk fuel (aa_val (ed_var 0) (aa_own 1 (aa_val (ed_ix (ix_any hu1) (ed_var 4) ed_int) aa_nil)))))))
    (sd_one (sd_if (td_cmp (od_eq hu64) (ed_ix (ix_any hu1) (ed_var 4) ed_int) (ed_str [101, 97, 99, 104] rfl))
    (sd_one (sd_dput 3 hu1 (ed_ix (ix_any hu1) (ed_var 4) ed_int) (ed_of (eo_lc nd (id_range1 (ad_cons (ed_call (ok_law_draw T) (hr.mono (by omega)) T.m__law_draw T.k__law_draw T.b__law_draw tk fuel (aa_val (ed_var 0) (aa_own 1 (aa_val ed_int aa_nil)))) ad_nil) T.z_range) (blk (own := [("_law_k", 5)]) rfl (of_decide_eq_true rfl) (of_decide_eq_true rfl) (of_decide_eq_true rfl) (of_decide_eq_true rfl)) (fun _ _ _ _ _ => (gd_name 5 nd)) (fun _ _ _ _ _ => ptd_nil) (fun _ _ _ _ _ => (ed_call C0 (hr.mono (by omega)) T.m__law_record T.k__law_record T.b__law_record L2.takes0 fuel (aa_val (ed_var 0) (aa_own 1 (aa_val (ed_ix (ix_any hu1) (ed_var 4) ed_int) aa_nil)))))))))
    sd_nil)))))))
    (sd_one (sd_retO (eo_move 3 (of_decide_eq_true rfl))))))
theorem grp_law_record (T : Txt K mg) : ∀ r : Nat, FnOk P w K mg base (L2.CX P w) (2 + r) T.f__law_record T.d__law_record ["_law_script", "_law_town", "_law_parts_here"] (spD K T.cm 3 (F_law_record r))
  | 0 => fn_none
  | r + 1 => by
    have ih := grp_law_record T r
    exact body_law_record (base := base) T (k := 2 + r) (by omega) ih
theorem ok_law_record (T : Txt K mg) (r : Nat) : FnOk P w K mg base (L2.CX P w) (2 + r) T.f__law_record T.d__law_record ["_law_script", "_law_town", "_law_parts_here"] (spD K T.cm 3 (F_law_record r)) := (grp_law_record T r)
theorem sc_law_fill : FnScope ["_law_parts_here", "_law_record_here", "_law_text", "_law_part", "_law_value", "_law_at", "_law_one"] ["_law_parts_here", "_law_record_here"] (defScope S_law_fill) := ⟨rfl, rfl, rfl, by decide +kernel, rfl, by decide +kernel, by decide +kernel⟩
set_option maxHeartbeats 0 in
theorem body_law_fill (T : Txt K mg) {k : Nat} (hk : 0 ≤ k) {c0 : Nat → List Sl → Res} (C0 : FnOk P w K mg base (L2.CX P w) k T.f__law_fill T.d__law_fill ["_law_parts_here", "_law_record_here"] (spD K T.cm 2 c0)) : FnOk P w K mg base (L2.CX P w) (k + 1) T.f__law_fill T.d__law_fill ["_law_parts_here", "_law_record_here"] (spD K T.cm 2 (defD [] 7 (B_law_fill c0))) := by
  refine fn_D (G := ⟨T.cm, []⟩) T.F__law_fill sc_law_fill rfl fun fuel cdv A outer s H E hr => ?_
  have hu1 := L2.hu_of hr
  have hu64 := hr.units
  have nd := sc_law_fill.nd
  have hc : (CXD P w K mg base ["_law_parts_here", "_law_record_here", "_law_text", "_law_part", "_law_value", "_law_at", "_law_one"] "_law_fill" S_law_fill T.f__law_fill cdv A outer s H E).calm = true := rfl
  have hp : PassesOwn (model P w) (A.deeper (PyProof.Rows.envOfC "_law_fill" (defScope S_law_fill) s.heap.objs.size T.f__law_fill cdv)) (CXD P w K mg base ["_law_parts_here", "_law_record_here", "_law_text", "_law_part", "_law_value", "_law_at", "_law_one"] "_law_fill" S_law_fill T.f__law_fill cdv A outer s H E).env (CXD P w K mg base ["_law_parts_here", "_law_record_here", "_law_text", "_law_part", "_law_value", "_law_at", "_law_one"] "_law_fill" S_law_fill T.f__law_fill cdv A outer s H E).xe := L2.passes_of rfl
  have tk : L2.Takes (CXD P w K mg base ["_law_parts_here", "_law_record_here", "_law_text", "_law_part", "_law_value", "_law_at", "_law_one"] "_law_fill" S_law_fill T.f__law_fill cdv A outer s H E) (WD E) := L2.takes_of rfl rfl rfl rfl
  exact (sd_cons (sd_asg (ed_str [] rfl) (gd_name 2 nd))
    (sd_cons (sd_for hp (id_seq (ed_var 0)) (gd_name 3 nd)
    (sd_cons (sd_asg (ed_get1 hu1 (ed_var 1) (ed_ix (ix_any hu1) (ed_var 3) ed_int)) (gd_name 4 nd))
    (sd_one (sd_if (td_cmp (od_eq hu64) (ed_ix (ix_any hu1) (ed_var 3) ed_int) (ed_str [116, 101, 120, 116] rfl))
    (sd_one (sd_asg (ed_bin od_add (ed_var 2) (ed_ix (ix_any hu1) (ed_var 3) ed_int)) (gd_name 2 nd)))
    (sd_one (sd_if (td_cmp (od_eq hu64) (ed_ix (ix_any hu1) (ed_var 3) ed_int) (ed_str [102, 105, 101, 108, 100] rfl))
    (sd_one (sd_asg (ed_bin od_add (ed_var 2) (ed_var 4)) (gd_name 2 nd)))
    (sd_one (sd_if (td_w (tw_and (td_cmp (od_eq hu64) (ed_ix (ix_any hu1) (ed_var 3) ed_int) (ed_str [105, 102] rfl)) (tw_and1 (td_cmp od_isnot (ed_var 4) ed_non))))
    (sd_one (sd_asg (ed_bin od_add (ed_var 2) (ed_call C0 (hr.mono (by omega)) T.m__law_fill T.k__law_fill T.b__law_fill tk fuel (aa_val (ed_ix (ix_any hu1) (ed_var 3) ed_int) (aa_val (ed_var 4) aa_nil)))) (gd_name 2 nd)))
    (sd_one (sd_if (td_cmp (od_eq hu64) (ed_ix (ix_any hu1) (ed_var 3) ed_int) (ed_str [101, 97, 99, 104] rfl))
    (sd_one (sd_for hp (id_enum (ad_cons (ed_var 4) ad_nil) T.z_enumerate) (gd_tup 2 (gd_cons (gd_name 5 nd) (gd_cons (gd_name 6 nd) gd_nil)))
    (sd_one (sd_asg (ed_bin od_add (ed_bin od_add (ed_var 2) (ed_if (td_cmp od_gt (ed_var 5) ed_int) (ed_ix (ix_any hu1) (ed_var 3) ed_int) (ed_str [] rfl))) (ed_call C0 (hr.mono (by omega)) T.m__law_fill T.k__law_fill T.b__law_fill tk fuel (aa_val (ed_ix (ix_any hu1) (ed_var 3) ed_int) (aa_val (ed_var 6) aa_nil)))) (gd_name 2 nd)))))
    sd_nil))))))))))
    (sd_one (sd_ret (ed_var 2)))))
theorem grp_law_fill (T : Txt K mg) : ∀ r : Nat, FnOk P w K mg base (L2.CX P w) (0 + r) T.f__law_fill T.d__law_fill ["_law_parts_here", "_law_record_here"] (spD K T.cm 2 (F_law_fill r))
  | 0 => fn_none
  | r + 1 => by
    have ih := grp_law_fill T r
    exact body_law_fill (base := base) T (k := 0 + r) (by omega) ih
theorem ok_law_fill (T : Txt K mg) (r : Nat) : FnOk P w K mg base (L2.CX P w) (0 + r) T.f__law_fill T.d__law_fill ["_law_parts_here", "_law_record_here"] (spD K T.cm 2 (F_law_fill r)) := (grp_law_fill T r)
theorem sc_law_size : FnScope ["_law_record_here", "_law_total", "_law_name", "_law_value", "_law_one"] ["_law_record_here"] (defScope S_law_size) := ⟨rfl, rfl, rfl, by decide +kernel, rfl, by decide +kernel, by decide +kernel⟩
set_option maxHeartbeats 0 in
theorem body_law_size (T : Txt K mg) {k : Nat} (hk : 0 ≤ k) {c0 : Nat → List Sl → Res} (C0 : FnOk P w K mg base (L2.CX P w) k T.f__law_size T.d__law_size ["_law_record_here"] (spD K T.cm 1 c0)) : FnOk P w K mg base (L2.CX P w) (k + 1) T.f__law_size T.d__law_size ["_law_record_here"] (spD K T.cm 1 (defD [] 5 (B_law_size c0))) := by
  refine fn_D (G := ⟨T.cm, []⟩) T.F__law_size sc_law_size rfl fun fuel cdv A outer s H E hr => ?_
  have hu1 := L2.hu_of hr
  have hu64 := hr.units
  have nd := sc_law_size.nd
  have hc : (CXD P w K mg base ["_law_record_here", "_law_total", "_law_name", "_law_value", "_law_one"] "_law_size" S_law_size T.f__law_size cdv A outer s H E).calm = true := rfl
  have hp : PassesOwn (model P w) (A.deeper (PyProof.Rows.envOfC "_law_size" (defScope S_law_size) s.heap.objs.size T.f__law_size cdv)) (CXD P w K mg base ["_law_record_here", "_law_total", "_law_name", "_law_value", "_law_one"] "_law_size" S_law_size T.f__law_size cdv A outer s H E).env (CXD P w K mg base ["_law_record_here", "_law_total", "_law_name", "_law_value", "_law_one"] "_law_size" S_law_size T.f__law_size cdv A outer s H E).xe := L2.passes_of rfl
  have tk : L2.Takes (CXD P w K mg base ["_law_record_here", "_law_total", "_law_name", "_law_value", "_law_one"] "_law_size" S_law_size T.f__law_size cdv A outer s H E) (WD E) := L2.takes_of rfl rfl rfl rfl
  exact (sd_cons (sd_asg ed_int (gd_name 1 nd))
    (sd_cons (sd_forK 0 hp (gd_name 2 nd)
    (sd_cons (sd_asg (ed_ix (ix_any hu1) (ed_var 0) (ed_var 2)) (gd_name 3 nd))
    (sd_one (sd_if (td_of (ed_callB cd_isi T.z_isinstance bt_isinstance (ad_cons (ed_var 3) (ad_cons (ed_ty "str" T.z_str bt_str) ad_nil))))
    (sd_one (sd_asg (ed_bin od_add (ed_var 1) (ed_callB cd_len T.z_len bt_len (ad_cons (ed_var 3) ad_nil))) (gd_name 1 nd)))
    (sd_one (sd_if (td_of (ed_callB cd_isi T.z_isinstance bt_isinstance (ad_cons (ed_var 3) (ad_cons (ed_ty "dict" T.z_dict bt_dict) ad_nil))))
    (sd_one (sd_asg (ed_bin od_add (ed_bin od_add (ed_var 1) ed_int) (ed_call C0 (hr.mono (by omega)) T.m__law_size T.k__law_size T.b__law_size tk fuel (aa_val (ed_var 3) aa_nil))) (gd_name 1 nd)))
    (sd_one (sd_if (td_cmp od_isnot (ed_var 3) ed_non)
    (sd_one (sd_asg (ed_bin od_add (ed_var 1) (ed_callB (cd_sum hc) T.z_sum bt_sum (ad_cons (ed_of (eo_lc nd (id_seq (ed_var 3)) (blk (own := [("_law_one", 4)]) rfl (of_decide_eq_true rfl) (of_decide_eq_true rfl) (of_decide_eq_true rfl) (of_decide_eq_true rfl)) (fun _ _ _ _ _ => (gd_name 4 nd)) (fun _ _ _ _ _ => ptd_nil) (fun _ _ _ _ _ => (ed_bin od_add ed_int (ed_call C0 (hr.mono (by omega)) T.m__law_size T.k__law_size T.b__law_size L2.takes0 fuel (aa_val (ed_var 4) aa_nil)))))) ad_nil))) (gd_name 1 nd)))
    sd_nil))))))))
    (sd_one (sd_ret (ed_var 1)))))
theorem grp_law_size (T : Txt K mg) : ∀ r : Nat, FnOk P w K mg base (L2.CX P w) (0 + r) T.f__law_size T.d__law_size ["_law_record_here"] (spD K T.cm 1 (F_law_size r))
  | 0 => fn_none
  | r + 1 => by
    have ih := grp_law_size T r
    exact body_law_size (base := base) T (k := 0 + r) (by omega) ih
theorem ok_law_size (T : Txt K mg) (r : Nat) : FnOk P w K mg base (L2.CX P w) (0 + r) T.f__law_size T.d__law_size ["_law_record_here"] (spD K T.cm 1 (F_law_size r)) := (grp_law_size T r)
theorem sc_law_records : FnScope ["_law_parts_here", "_law_words", "_law_most", "_law_found", "_law_part", "_law_values", "_law_longer", "_law_record_here", "_law_inside", "_law_one", "_law_value", "_law_other"] ["_law_parts_here", "_law_words", "_law_most"] (defScope S_law_records) := ⟨rfl, rfl, rfl, by decide +kernel, rfl, by decide +kernel, by decide +kernel⟩
set_option maxHeartbeats 0 in
theorem body_law_records (T : Txt K mg) {k : Nat} (hk : 0 ≤ k) {c0 : Nat → List Sl → Res} (C0 : FnOk P w K mg base (L2.CX P w) k T.f__law_records T.d__law_records ["_law_parts_here", "_law_words", "_law_most"] (spD K T.cm 3 c0)) : FnOk P w K mg base (L2.CX P w) (k + 1) T.f__law_records T.d__law_records ["_law_parts_here", "_law_words", "_law_most"] (spD K T.cm 3 (defD [] 12 (B_law_records c0))) := by
  refine fn_D (G := ⟨T.cm, []⟩) T.F__law_records sc_law_records rfl fun fuel cdv A outer s H E hr => ?_
  have hu1 := L2.hu_of hr
  have hu64 := hr.units
  have nd := sc_law_records.nd
  have hc : (CXD P w K mg base ["_law_parts_here", "_law_words", "_law_most", "_law_found", "_law_part", "_law_values", "_law_longer", "_law_record_here", "_law_inside", "_law_one", "_law_value", "_law_other"] "_law_records" S_law_records T.f__law_records cdv A outer s H E).calm = true := rfl
  have hp : PassesOwn (model P w) (A.deeper (PyProof.Rows.envOfC "_law_records" (defScope S_law_records) s.heap.objs.size T.f__law_records cdv)) (CXD P w K mg base ["_law_parts_here", "_law_words", "_law_most", "_law_found", "_law_part", "_law_values", "_law_longer", "_law_record_here", "_law_inside", "_law_one", "_law_value", "_law_other"] "_law_records" S_law_records T.f__law_records cdv A outer s H E).env (CXD P w K mg base ["_law_parts_here", "_law_words", "_law_most", "_law_found", "_law_part", "_law_values", "_law_longer", "_law_record_here", "_law_inside", "_law_one", "_law_value", "_law_other"] "_law_records" S_law_records T.f__law_records cdv A outer s H E).xe := L2.passes_of rfl
  have tk : L2.Takes (CXD P w K mg base ["_law_parts_here", "_law_words", "_law_most", "_law_found", "_law_part", "_law_values", "_law_longer", "_law_record_here", "_law_inside", "_law_one", "_law_value", "_law_other"] "_law_records" S_law_records T.f__law_records cdv A outer s H E) (WD E) := L2.takes_of rfl rfl rfl rfl
  exact (sd_cons (sd_asg (ed_lst (ad_cons (ed_of eo_dicK) ad_nil)) (gd_name 3 nd))
    (sd_cons (sd_for hp (id_seq (ed_var 0)) (gd_name 4 nd)
    (sd_cons (sd_setO 5 (eo_lst ad_nil) nd)
    (sd_cons (sd_if (td_cmp (od_eq hu64) (ed_ix (ix_any hu1) (ed_var 4) ed_int) (ed_str [102, 105, 101, 108, 100] rfl))
    (sd_one (sd_setO 5 (eo_list hc T.z_list bt_list (ed_var 1)) nd))
    (sd_one (sd_if (td_cmp (od_eq hu64) (ed_ix (ix_any hu1) (ed_var 4) ed_int) (ed_str [105, 102] rfl))
    (sd_one (sd_setO 5 (eo_addL (ed_lst (ad_cons ed_non ad_nil)) (ed_slice (ed_call C0 (hr.mono (by omega)) T.m__law_records T.k__law_records T.b__law_records tk fuel (aa_val (ed_ix (ix_any hu1) (ed_var 4) ed_int) (aa_val (ed_var 1) (aa_val (ed_var 2) aa_nil)))) od_none (od_some ed_int))) nd))
    (sd_one (sd_if (td_cmp (od_eq hu64) (ed_ix (ix_any hu1) (ed_var 4) ed_int) (ed_str [101, 97, 99, 104] rfl))
    (sd_cons (sd_asg (ed_slice (ed_call C0 (hr.mono (by omega)) T.m__law_records T.k__law_records T.b__law_records tk fuel (aa_val (ed_ix (ix_any hu1) (ed_var 4) ed_int) (aa_val (ed_var 1) (aa_val (ed_var 2) aa_nil)))) od_none (od_some ed_int)) (gd_name 8 nd))
    (sd_cons (sd_setO 5 (eo_addL (ed_lst (ad_cons (ed_lst ad_nil) ad_nil)) (ed_of (eo_lc nd (id_seq (ed_var 8)) (blk (own := [("_law_one", 9)]) rfl (of_decide_eq_true rfl) (of_decide_eq_true rfl) (of_decide_eq_true rfl) (of_decide_eq_true rfl)) (fun _ _ _ _ _ => (gd_name 9 nd)) (fun _ _ _ _ _ => ptd_nil) (fun _ _ _ _ _ => (ed_lst (ad_cons (ed_var 9) ad_nil)))))) nd)
    (sd_one (sd_for hp (id_seq (ed_var 8)) (gd_name 9 nd)
    (sd_one (sd_ext 5 (ed_of (eo_lc nd (id_seq (ed_var 8)) (blk (own := [("_law_other", 11)]) rfl (of_decide_eq_true rfl) (of_decide_eq_true rfl) (of_decide_eq_true rfl) (of_decide_eq_true rfl)) (fun _ _ _ _ _ => (gd_name 11 nd)) (fun _ _ _ _ _ => ptd_nil) (fun _ _ _ _ _ => (ed_lst (ad_cons (ed_var 9) (ad_cons (ed_var 11) ad_nil))))))))))))
    sd_nil)))))
    (sd_one (sd_if (td_cmp (od_ne hu64) (ed_ix (ix_any hu1) (ed_var 4) ed_int) (ed_str [116, 101, 120, 116] rfl))
    (sd_cons (sd_setO 6 (eo_lst ad_nil) nd)
    (sd_cons (sd_for hp (id_seq (ed_var 3)) (gd_name 7 nd)
    (sd_one (sd_ext 6 (ed_of (eo_lc nd (id_seq (ed_varF 5)) (blk (own := [("_law_value", 10)]) rfl (of_decide_eq_true rfl) (of_decide_eq_true rfl) (of_decide_eq_true rfl) (of_decide_eq_true rfl)) (fun _ _ _ _ _ => (gd_name 10 nd)) (fun _ _ _ _ _ => ptd_nil) (fun _ _ _ _ _ => (ed_of (eo_dictP hc T.z_dict bt_dict (ed_bin od_add (ed_listItems hc T.z_list bt_list (ed_var 7)) (ed_lst (ad_cons (ed_tup (ad_cons (ed_ix (ix_any hu1) (ed_var 4) ed_int) (ad_cons (ed_var 10) ad_nil))) ad_nil)))))))))))
    (sd_one (sd_asg (ed_slice (ed_varF 6) od_none (od_some (ed_var 2))) (gd_name 3 nd)))))
    sd_nil)))))
    (sd_one (sd_ret (ed_var 3)))))
theorem grp_law_records (T : Txt K mg) : ∀ r : Nat, FnOk P w K mg base (L2.CX P w) (0 + r) T.f__law_records T.d__law_records ["_law_parts_here", "_law_words", "_law_most"] (spD K T.cm 3 (F_law_records r))
  | 0 => fn_none
  | r + 1 => by
    have ih := grp_law_records T r
    exact body_law_records (base := base) T (k := 0 + r) (by omega) ih
theorem ok_law_records (T : Txt K mg) (r : Nat) : FnOk P w K mg base (L2.CX P w) (0 + r) T.f__law_records T.d__law_records ["_law_parts_here", "_law_words", "_law_most"] (spD K T.cm 3 (F_law_records r)) := (grp_law_records T r)
theorem sc_law_changed : FnScope ["_law_script", "_law_town", "_law_parts_here", "_law_texts", "_law_part", "_law_named", "_law_made"] ["_law_script", "_law_town", "_law_parts_here"] (defScope S_law_changed) := ⟨rfl, rfl, rfl, by decide +kernel, rfl, by decide +kernel, by decide +kernel⟩
set_option maxHeartbeats 0 in
theorem body_law_changed (T : Txt K mg) {k : Nat} (hk : 2 ≤ k) {c0 : Nat → List Sl → Res} (C0 : FnOk P w K mg base (L2.CX P w) k T.f__law_changed T.d__law_changed ["_law_script", "_law_town", "_law_parts_here"] (spD K T.cm 3 c0)) : FnOk P w K mg base (L2.CX P w) (k + 1) T.f__law_changed T.d__law_changed ["_law_script", "_law_town", "_law_parts_here"] (spD K T.cm 3 (defD [1] 7 (B_law_changed c0))) := by
  refine fn_D (G := ⟨T.cm, [1]⟩) T.F__law_changed sc_law_changed rfl fun fuel cdv A outer s H E hr => ?_
  have hu1 := L2.hu_of hr
  have hu64 := hr.units
  have nd := sc_law_changed.nd
  have hc : (CXD P w K mg base ["_law_script", "_law_town", "_law_parts_here", "_law_texts", "_law_part", "_law_named", "_law_made"] "_law_changed" S_law_changed T.f__law_changed cdv A outer s H E).calm = true := rfl
  have hp : PassesOwn (model P w) (A.deeper (PyProof.Rows.envOfC "_law_changed" (defScope S_law_changed) s.heap.objs.size T.f__law_changed cdv)) (CXD P w K mg base ["_law_script", "_law_town", "_law_parts_here", "_law_texts", "_law_part", "_law_named", "_law_made"] "_law_changed" S_law_changed T.f__law_changed cdv A outer s H E).env (CXD P w K mg base ["_law_script", "_law_town", "_law_parts_here", "_law_texts", "_law_part", "_law_named", "_law_made"] "_law_changed" S_law_changed T.f__law_changed cdv A outer s H E).xe := L2.passes_of rfl
  have tk : L2.Takes (CXD P w K mg base ["_law_script", "_law_town", "_law_parts_here", "_law_texts", "_law_part", "_law_named", "_law_made"] "_law_changed" S_law_changed T.f__law_changed cdv A outer s H E) (WD E) := L2.takes_of rfl rfl rfl rfl
  exact (sd_cons (sd_mix2 5 6 (am_val (ed_of (eo_lc nd (id_seq (ed_var 2)) (blk (own := [("_law_part", 4)]) rfl (of_decide_eq_true rfl) (of_decide_eq_true rfl) (of_decide_eq_true rfl) (of_decide_eq_true rfl)) (fun _ _ _ _ _ => (gd_name 4 nd)) (fun _ _ _ _ _ => (ptd_one (td_cmp (od_ne hu64) (ed_ix (ix_any hu1) (ed_var 4) ed_int) (ed_str [116, 101, 120, 116] rfl)))) (fun _ _ _ _ _ => (ed_var 4)))) (am_own (eo_lst ad_nil) am_nil)) nd)
    (sd_cons (sd_setLcO 3 nd (id_seq (ed_var 2)) (blk (own := [("_law_part", 4)]) rfl (of_decide_eq_true rfl) (of_decide_eq_true rfl) (of_decide_eq_true rfl) (of_decide_eq_true rfl)) (fun _ _ _ _ _ => (gd_name 4 nd)) (fun _ _ _ _ _ => (ptd_one (td_cmp (od_eq hu64) (ed_ix (ix_any hu1) (ed_var 4) ed_int) (ed_str [116, 101, 120, 116] rfl)))) (fun _ _ _ _ _ => (ed_var 4)) (by exact L2.sw_true rfl rfl rfl rfl))
    (sd_cons (sd_if (td_cmp (od_eq hu64) (ed_call (ok_law_draw T) (hr.mono (by omega)) T.m__law_draw T.k__law_draw T.b__law_draw tk fuel (aa_val (ed_var 0) (aa_own 1 (aa_val ed_int aa_nil)))) ed_int)
    (sd_one (sd_asg (ed_rev (ed_var 5)) (gd_name 5 nd)))
    sd_nil)
    (sd_cons (sd_for hp (id_seq (ed_var 5)) (gd_name 4 nd)
    (sd_cons (sd_if (td_cmp (od_in hu1) (ed_ix (ix_any hu1) (ed_var 4) ed_int) (ed_tup (ad_cons (ed_str [105, 102] rfl) (ad_cons (ed_str [101, 97, 99, 104] rfl) ad_nil))))
    (sd_one (sd_asg (ed_bin od_add (ed_slice (ed_var 4) od_none (od_some (ed_neg ed_int))) (ed_tup (ad_cons (ed_call C0 (hr.mono (by omega)) T.m__law_changed T.k__law_changed T.b__law_changed tk fuel (aa_val (ed_var 0) (aa_own 1 (aa_val (ed_ix (ix_any hu1) (ed_var 4) (ed_neg ed_int)) aa_nil)))) ad_nil))) (gd_name 4 nd)))
    sd_nil)
    (sd_cons (sd_if (td_w (tw_and (td_cmp (od_eq hu64) (ed_ix (ix_any hu1) (ed_var 4) ed_int) (ed_str [101, 97, 99, 104] rfl)) (tw_and1 (td_cmp (od_eq hu64) (ed_call (ok_law_draw T) (hr.mono (by omega)) T.m__law_draw T.k__law_draw T.b__law_draw tk fuel (aa_val (ed_var 0) (aa_own 1 (aa_val ed_int aa_nil)))) ed_int))))
    (sd_one (sd_asg (ed_tup (ad_cons (ed_ix (ix_any hu1) (ed_var 4) ed_int) (ad_cons (ed_ix (ix_any hu1) (ed_var 4) ed_int) (ad_cons (ed_call (ok_law_pick T) (hr.mono (by omega)) T.m__law_pick T.k__law_pick T.b__law_pick tk fuel (aa_val (ed_var 0) (aa_own 1 (aa_val (ed_lst (ad_cons (ed_str [] rfl) (ad_cons (ed_str [44] rfl) (ad_cons (ed_str [97] rfl) ad_nil)))) aa_nil)))) (ad_cons (ed_ix (ix_any hu1) (ed_var 4) ed_int) ad_nil))))) (gd_name 4 nd)))
    sd_nil)
    (sd_cons (sd_if (td_w (tw_and (td_neOwn 3 hu64 (ed_lst ad_nil)) (tw_and1 (td_cmp (od_eq hu64) (ed_call (ok_law_draw T) (hr.mono (by omega)) T.m__law_draw T.k__law_draw T.b__law_draw tk fuel (aa_val (ed_var 0) (aa_own 1 (aa_val ed_int aa_nil)))) ed_int))))
    (sd_one (sd_app 6 (ed_popAt 3 ed_int)))
    sd_nil)
    (sd_one (sd_app 6 (ed_var 4)))))))
    (sd_one (sd_ret (ed_callTy cd_tuple T.z_tuple bt_tuple (ad_cons (ed_bin od_add (ed_varF 6) (ed_varF 3)) ad_nil))))))))
theorem grp_law_changed (T : Txt K mg) : ∀ r : Nat, FnOk P w K mg base (L2.CX P w) (2 + r) T.f__law_changed T.d__law_changed ["_law_script", "_law_town", "_law_parts_here"] (spD K T.cm 3 (F_law_changed r))
  | 0 => fn_none
  | r + 1 => by
    have ih := grp_law_changed T r
    exact body_law_changed (base := base) T (k := 2 + r) (by omega) ih
theorem ok_law_changed (T : Txt K mg) (r : Nat) : FnOk P w K mg base (L2.CX P w) (2 + r) T.f__law_changed T.d__law_changed ["_law_script", "_law_town", "_law_parts_here"] (spD K T.cm 3 (F_law_changed r)) := (grp_law_changed T r)
theorem sc_law : FnScope ["_law_script", "_law_town", "_law_template_here", "_law_other", "_law_record_here", "_law_told", "_law_best", "_law_records_here", "_law_k"] ["_law_script"] (defScope S_law) := ⟨rfl, rfl, rfl, by decide +kernel, rfl, by decide +kernel, by decide +kernel⟩
set_option maxHeartbeats 0 in
theorem body_law (T : Txt K mg)    : FnOk P w K mg base (L2.CX P w) (15 + 1) T.f_law T.d_law ["_law_script"] (spD K T.cm 1 (defD [] 9 (B_law ))) := by
  refine fn_D (G := ⟨T.cm, []⟩) T.F_law sc_law rfl fun fuel cdv A outer s H E hr => ?_
  have hu1 := L2.hu_of hr
  have hu64 := hr.units
  have nd := sc_law.nd
  have hc : (CXD P w K mg base ["_law_script", "_law_town", "_law_template_here", "_law_other", "_law_record_here", "_law_told", "_law_best", "_law_records_here", "_law_k"] "law" S_law T.f_law cdv A outer s H E).calm = true := rfl
  have hp : PassesOwn (model P w) (A.deeper (PyProof.Rows.envOfC "law" (defScope S_law) s.heap.objs.size T.f_law cdv)) (CXD P w K mg base ["_law_script", "_law_town", "_law_template_here", "_law_other", "_law_record_here", "_law_told", "_law_best", "_law_records_here", "_law_k"] "law" S_law T.f_law cdv A outer s H E).env (CXD P w K mg base ["_law_script", "_law_town", "_law_template_here", "_law_other", "_law_record_here", "_law_told", "_law_best", "_law_records_here", "_law_k"] "law" S_law T.f_law cdv A outer s H E).xe := L2.passes_of rfl
  have tk : L2.Takes (CXD P w K mg base ["_law_script", "_law_town", "_law_template_here", "_law_other", "_law_record_here", "_law_told", "_law_best", "_law_records_here", "_law_k"] "law" S_law T.f_law cdv A outer s H E) (WD E) := L2.takes_of rfl rfl rfl rfl
  exact (sd_cons (sd_setO 1 (eo_lst (ad_cons ed_int (ad_cons ed_int ad_nil))) nd)
    (sd_cons (sd_asg (ed_call (ok_law_template T) (hr.mono (by omega)) T.m__law_template T.k__law_template T.b__law_template tk fuel (aa_val (ed_var 0) (aa_own 1 (aa_val ed_int (aa_val (ed_lst (ad_cons (ed_str [97] rfl) (ad_cons (ed_str [44] rfl) (ad_cons (ed_str [97, 98] rfl) ad_nil)))) aa_nil))))) (gd_name 2 nd))
    (sd_cons (sd_asg (ed_call (ok_law_changed T 8) (hr.mono (by omega)) T.m__law_changed T.k__law_changed T.b__law_changed tk fuel (aa_val (ed_var 0) (aa_own 1 (aa_val (ed_var 2) aa_nil)))) (gd_name 3 nd))
    (sd_cons (sd_if (td_w (tw_or (td_not (td_of (ed_call (ok_is_template T) (hr.mono (by omega)) T.m_is_template T.k_is_template T.b_is_template tk fuel (aa_val (ed_var 2) aa_nil)))) (tw_or1 (td_not (td_of (ed_call (ok_is_template T) (hr.mono (by omega)) T.m_is_template T.k_is_template T.b_is_template tk fuel (aa_val (ed_var 3) aa_nil)))))))
    (sd_one (sd_ret ed_bl))
    sd_nil)
    (sd_cons (sd_if (td_w (tw_or (td_cmp od_isnot (ed_call (ok_alike T) (hr.mono (by omega)) T.m_alike T.k_alike T.b_alike tk fuel (aa_val (ed_var 2) (aa_val (ed_var 3) aa_nil))) ed_bl) (tw_or1 (td_cmp od_isnot (ed_call (ok_difference T) (hr.mono (by omega)) T.m_difference T.k_difference T.b_difference tk fuel (aa_val (ed_var 2) (aa_val (ed_var 2) aa_nil))) ed_non))))
    (sd_one (sd_ret ed_bl))
    sd_nil)
    (sd_cons (sd_par 5 6 (ad_cons (ed_call (ok_difference T) (hr.mono (by omega)) T.m_difference T.k_difference T.b_difference tk fuel (aa_val (ed_var 2) (aa_val (ed_var 3) aa_nil))) (ad_cons ed_non ad_nil)) nd)
    (sd_cons (sd_for hp (id_seq (ed_call (ok_law_records T 8) (hr.mono (by omega)) T.m__law_records T.k__law_records T.b__law_records tk fuel (aa_val (ed_var 2) (aa_val (ed_lst (ad_cons (ed_str [97] rfl) (ad_cons (ed_str [98] rfl) ad_nil))) (aa_val ed_int aa_nil))))) (gd_name 4 nd)
    (sd_one (sd_if (td_w (tw_and (td_cmp (od_ne hu64) (ed_call (ok_law_fill T 8) (hr.mono (by omega)) T.m__law_fill T.k__law_fill T.b__law_fill tk fuel (aa_val (ed_var 2) (aa_val (ed_var 4) aa_nil))) (ed_call (ok_law_fill T 8) (hr.mono (by omega)) T.m__law_fill T.k__law_fill T.b__law_fill tk fuel (aa_val (ed_var 3) (aa_val (ed_var 4) aa_nil)))) (tw_and1 (td_w (tw_or (td_cmp od_is (ed_var 6) ed_non) (tw_or1 (td_cmp od_lt (ed_call (ok_law_size T 8) (hr.mono (by omega)) T.m__law_size T.k__law_size T.b__law_size tk fuel (aa_val (ed_var 4) aa_nil)) (ed_var 6))))))))
    (sd_one (sd_asg (ed_call (ok_law_size T 8) (hr.mono (by omega)) T.m__law_size T.k__law_size T.b__law_size tk fuel (aa_val (ed_var 4) aa_nil)) (gd_name 6 nd)))
    sd_nil)))
    (sd_cons (sd_if (td_cmp (od_ne hu64) (ed_cmp od_is (ed_call (ok_difference T) (hr.mono (by omega)) T.m_difference T.k_difference T.b_difference tk fuel (aa_val (ed_var 3) (aa_val (ed_var 2) aa_nil))) ed_non) (ed_cmp od_is (ed_var 5) ed_non))
    (sd_one (sd_ret ed_bl))
    sd_nil)
    (sd_cons (sd_if (td_cmp od_is (ed_var 5) ed_non)
    (sd_cons (sd_setLcV 7 nd (id_range1 (ad_cons ed_int ad_nil) T.z_range) (blk (own := [("_law_k", 8)]) rfl (of_decide_eq_true rfl) (of_decide_eq_true rfl) (of_decide_eq_true rfl) (of_decide_eq_true rfl)) (fun _ _ _ _ _ => (gd_name 8 nd)) (fun _ _ _ _ _ => ptd_nil) (fun _ _ _ _ _ => (ed_call (ok_law_record T 8) (hr.mono (by omega)) T.m__law_record T.k__law_record T.b__law_record L2.takes0 fuel (aa_val (ed_var 0) (aa_own 1 (aa_val (ed_var 2) aa_nil))))) (by exact L2.sw_true rfl rfl rfl rfl))
    (sd_cons (sd_if (td_cmp od_isnot (ed_var 6) ed_non)
    (sd_one (sd_ret ed_bl))
    sd_nil)
    (sd_one (sd_ret (ed_callB (cd_all hc) T.z_all bt_all (ad_cons (ed_of (eo_lc nd (id_seq (ed_var 7)) (blk (own := [("_law_record_here", 4)]) rfl (of_decide_eq_true rfl) (of_decide_eq_true rfl) (of_decide_eq_true rfl) (of_decide_eq_true rfl)) (fun _ _ _ _ _ => (gd_name 4 nd)) (fun _ _ _ _ _ => ptd_nil) (fun _ _ _ _ _ => (ed_cmp (od_eq hu64) (ed_call (ok_law_fill T 8) (hr.mono (by omega)) T.m__law_fill T.k__law_fill T.b__law_fill L2.takes0 fuel (aa_val (ed_var 2) (aa_val (ed_var 4) aa_nil))) (ed_call (ok_law_fill T 8) (hr.mono (by omega)) T.m__law_fill T.k__law_fill T.b__law_fill L2.takes0 fuel (aa_val (ed_var 3) (aa_val (ed_var 4) aa_nil))))))) ad_nil))))))
    sd_nil)
    (sd_cons (sd_if (td_w (tw_or (td_cmp od_isnot (ed_call (ok_is_record T) (hr.mono (by omega)) T.m_is_record T.k_is_record T.b_is_record tk fuel (aa_val (ed_var 2) (aa_val (ed_var 5) aa_nil))) ed_bl) (tw_or1 (td_cmp (od_eq hu64) (ed_call (ok_law_fill T 8) (hr.mono (by omega)) T.m__law_fill T.k__law_fill T.b__law_fill tk fuel (aa_val (ed_var 2) (aa_val (ed_var 5) aa_nil))) (ed_call (ok_law_fill T 8) (hr.mono (by omega)) T.m__law_fill T.k__law_fill T.b__law_fill tk fuel (aa_val (ed_var 3) (aa_val (ed_var 5) aa_nil)))))))
    (sd_one (sd_ret ed_bl))
    sd_nil)
    (sd_cons (sd_if (td_cmp (od_ne hu64) (ed_call (ok_law_size T 8) (hr.mono (by omega)) T.m__law_size T.k__law_size T.b__law_size tk fuel (aa_val (ed_call (ok_difference T) (hr.mono (by omega)) T.m_difference T.k_difference T.b_difference tk fuel (aa_val (ed_var 3) (aa_val (ed_var 2) aa_nil))) aa_nil)) (ed_call (ok_law_size T 8) (hr.mono (by omega)) T.m__law_size T.k__law_size T.b__law_size tk fuel (aa_val (ed_var 5) aa_nil)))
    (sd_one (sd_ret ed_bl))
    sd_nil)
    (sd_one (sd_ret (ed_or (ed_cmp od_is (ed_var 6) ed_non) (ed_and1 (ed_cmp od_le (ed_call (ok_law_size T 8) (hr.mono (by omega)) T.m__law_size T.k__law_size T.b__law_size tk fuel (aa_val (ed_var 5) aa_nil)) (ed_var 6)))))))))))))))))
theorem ok_law (T : Txt K mg) : FnOk P w K mg base (L2.CX P w) 16 T.f_law T.d_law ["_law_script"] (spD K T.cm 1 F_law) := body_law T
end
end LW

namespace LW
open PySem L2 DL
def spLaw (K : PySem.W.Frag) : Sp := fun vs H Q _ => ∃ (a : Addr) (ns : List Int), vs = [.ref a] ∧ SqL K H a (ns.map V.int) ∧ ns.length ≤ 63 ∧ ∀ H', Q (.bl true) H'
section
variable {P : Program} {w : World} {K : PySem.W.Frag} {mg : Str → Option Value} {base : Heap}
theorem law_ok (T : Txt K mg) : FnOk P w K mg base (L2.CX P w) 16 T.f_law T.d_law ["_law_script"] (spLaw K) := by
  have F := ok_law (P := P) (w := w) (base := base) T
  have key : ∀ vs H Q E, spLaw K vs H Q E → spD K T.cm 1 F_law vs H Q E := fun vs H Q E ⟨a, ns, e, hq, hl, k⟩ => by
    obtain ⟨fuel, cs, ef⟩ := law_true ns hl
    refine ⟨fuel, fun _ => false, [.val (.scr ns)], [], by rw [e]; rfl, (fun a ha => by cases ha), List.nodup_nil, ?_, ?_⟩
    · rw [e]
      refine ArgsR.val ?_ ArgsR.nil
      unfold Rep
      exact ⟨a, rfl, (show SqL K (hide H fun _ => false) a _ from by rw [show hide H (fun _ => false) = H from funext fun x => if_neg (by simp)]; exact hq), hl⟩
    · rw [ef]
      cases cs with
      | nil => intro v H' B r; rw [rep_bl.mp r]; exact k H'
      | cons c cs => intro v H' B r; rw [rep_bl.mp r]; exact k H'
  exact ⟨fun vs H Q E h => F.1 vs H Q E (key vs H Q E h), fun A outer s H args us vs Q E h1 h2 h3 h4 h => F.2 A outer s H args us vs Q E h1 h2 h3 h4 (key vs H Q E h)⟩
set_option maxHeartbeats 0 in
theorem all_mk {l : PySem.W.OpenLaw} {h : Heap} {fa : Addr} (X : K.In h) (G : h.Ns mainGlobals mg) (hfa : mg "law" = some (.ref fa))
  {f0 : Addr} {od0 an0 : Option Addr} {sl0 : Array (Option Value)} {oc0 kV0 dc0 pm0 cd0 ct0 : Value}
  {f1 : Addr} {od1 an1 : Option Addr} {sl1 : Array (Option Value)} {oc1 kV1 dc1 pm1 cd1 ct1 : Value}
  {f2 : Addr} {od2 an2 : Option Addr} {sl2 : Array (Option Value)} {oc2 kV2 dc2 pm2 cd2 ct2 : Value}
  {f3 : Addr} {od3 an3 : Option Addr} {sl3 : Array (Option Value)} {oc3 kV3 dc3 pm3 cd3 ct3 : Value}
  {f4 : Addr} {od4 an4 : Option Addr} {sl4 : Array (Option Value)} {oc4 kV4 dc4 pm4 cd4 ct4 : Value}
  {f5 : Addr} {od5 an5 : Option Addr} {sl5 : Array (Option Value)} {oc5 kV5 dc5 pm5 cd5 ct5 : Value}
  {f6 : Addr} {od6 an6 : Option Addr} {sl6 : Array (Option Value)} {oc6 kV6 dc6 pm6 cd6 ct6 : Value}
  {f7 : Addr} {od7 an7 : Option Addr} {sl7 : Array (Option Value)} {oc7 kV7 dc7 pm7 cd7 ct7 : Value}
  {f8 : Addr} {od8 an8 : Option Addr} {sl8 : Array (Option Value)} {oc8 kV8 dc8 pm8 cd8 ct8 : Value}
  {f9 : Addr} {od9 an9 : Option Addr} {sl9 : Array (Option Value)} {oc9 kV9 dc9 pm9 cd9 ct9 : Value}
  {f10 : Addr} {od10 an10 : Option Addr} {sl10 : Array (Option Value)} {oc10 kV10 dc10 pm10 cd10 ct10 : Value}
  {f11 : Addr} {od11 an11 : Option Addr} {sl11 : Array (Option Value)} {oc11 kV11 dc11 pm11 cd11 ct11 : Value}
  {f12 : Addr} {od12 an12 : Option Addr} {sl12 : Array (Option Value)} {oc12 kV12 dc12 pm12 cd12 ct12 : Value}
  {f13 : Addr} {od13 an13 : Option Addr} {sl13 : Array (Option Value)} {oc13 kV13 dc13 pm13 cd13 ct13 : Value}
  {f14 : Addr} {od14 an14 : Option Addr} {sl14 : Array (Option Value)} {oc14 kV14 dc14 pm14 cd14 ct14 : Value}
  {f15 : Addr} {od15 an15 : Option Addr} {sl15 : Array (Option Value)} {oc15 kV15 dc15 pm15 cd15 ct15 : Value}
  {f16 : Addr} {od16 an16 : Option Addr} {sl16 : Array (Option Value)} {oc16 kV16 dc16 pm16 cd16 ct16 : Value}
  {f17 : Addr} {od17 an17 : Option Addr} {sl17 : Array (Option Value)} {oc17 kV17 dc17 pm17 cd17 ct17 : Value}
  {f18 : Addr} {od18 an18 : Option Addr} {sl18 : Array (Option Value)} {oc18 kV18 dc18 pm18 cd18 ct18 : Value}
  {f19 : Addr} {od19 an19 : Option Addr} {sl19 : Array (Option Value)} {oc19 kV19 dc19 pm19 cd19 ct19 : Value}
  {f20 : Addr} {od20 an20 : Option Addr} {sl20 : Array (Option Value)} {oc20 kV20 dc20 pm20 cd20 ct20 : Value}
  {f21 : Addr} {od21 an21 : Option Addr} {sl21 : Array (Option Value)} {oc21 kV21 dc21 pm21 cd21 ct21 : Value}
  {f22 : Addr} {od22 an22 : Option Addr} {sl22 : Array (Option Value)} {oc22 kV22 dc22 pm22 cd22 ct22 : Value}
  {f23 : Addr} {od23 an23 : Option Addr} {sl23 : Array (Option Value)} {oc23 kV23 dc23 pm23 cd23 ct23 : Value}
  {f24 : Addr} {od24 an24 : Option Addr} {sl24 : Array (Option Value)} {oc24 kV24 dc24 pm24 cd24 ct24 : Value}
  {f25 : Addr} {od25 an25 : Option Addr} {sl25 : Array (Option Value)} {oc25 kV25 dc25 pm25 cd25 ct25 : Value}
  {f26 : Addr} {od26 an26 : Option Addr} {sl26 : Array (Option Value)} {oc26 kV26 dc26 pm26 cd26 ct26 : Value}
  {f27 : Addr} {od27 an27 : Option Addr} {sl27 : Array (Option Value)} {oc27 kV27 dc27 pm27 cd27 ct27 : Value}
  {f28 : Addr} {od28 an28 : Option Addr} {sl28 : Array (Option Value)} {oc28 kV28 dc28 pm28 cd28 ct28 : Value}
  {f29 : Addr} {od29 an29 : Option Addr} {sl29 : Array (Option Value)} {oc29 kV29 dc29 pm29 cd29 ct29 : Value}
  {t_ALL_PARTS : Tok}
  {t_DEPTH : Tok}
  {t_ITEMS : Tok}
  {t_LETTERS : Tok}
  {t_LITERAL : Tok}
  {t_PARTS : Tok}
  {t_SECTIONS : Tok}
  {t_WORD : Tok}
  {C_InvalidTemplate : Addr}
  {C_NotAlike : Addr}
  (a0 : PySem.W.nsIn K mainGlobals "is_over" = some (some (.ref f0))) (l0 : K.lookup f0 = some ⟨oc0, od0, .func (PySem.W.fnOf "is_over" "is_over" (defArgs S_is_over) (defBody S_is_over) (defScope S_is_over) .none kV0 dc0 pm0 an0 cd0 ct0), sl0⟩) (c0 : PySem.W.codeIn K cd0 "is_over" = true) (k0 : PySem.W.keepIn K (.ref f0) = true)
  (a1 : PySem.W.nsIn K mainGlobals "are_parts" = some (some (.ref f1))) (l1 : K.lookup f1 = some ⟨oc1, od1, .func (PySem.W.fnOf "are_parts" "are_parts" (defArgs S_are_parts) (defBody S_are_parts) (defScope S_are_parts) .none kV1 dc1 pm1 an1 cd1 ct1), sl1⟩) (c1 : PySem.W.codeIn K cd1 "are_parts" = true) (k1 : PySem.W.keepIn K (.ref f1) = true)
  (a2 : PySem.W.nsIn K mainGlobals "is_part" = some (some (.ref f2))) (l2 : K.lookup f2 = some ⟨oc2, od2, .func (PySem.W.fnOf "is_part" "is_part" (defArgs S_is_part) (defBody S_is_part) (defScope S_is_part) .none kV2 dc2 pm2 an2 cd2 ct2), sl2⟩) (c2 : PySem.W.codeIn K cd2 "is_part" = true) (k2 : PySem.W.keepIn K (.ref f2) = true)
  (a3 : PySem.W.nsIn K mainGlobals "inner" = some (some (.ref f3))) (l3 : K.lookup f3 = some ⟨oc3, od3, .func (PySem.W.fnOf "inner" "inner" (defArgs S_inner) (defBody S_inner) (defScope S_inner) .none kV3 dc3 pm3 an3 cd3 ct3), sl3⟩) (c3 : PySem.W.codeIn K cd3 "inner" = true) (k3 : PySem.W.keepIn K (.ref f3) = true)
  (a4 : PySem.W.nsIn K mainGlobals "many_parts" = some (some (.ref f4))) (l4 : K.lookup f4 = some ⟨oc4, od4, .func (PySem.W.fnOf "many_parts" "many_parts" (defArgs S_many_parts) (defBody S_many_parts) (defScope S_many_parts) .none kV4 dc4 pm4 an4 cd4 ct4), sl4⟩) (c4 : PySem.W.codeIn K cd4 "many_parts" = true) (k4 : PySem.W.keepIn K (.ref f4) = true)
  (a5 : PySem.W.nsIn K mainGlobals "is_template" = some (some (.ref f5))) (l5 : K.lookup f5 = some ⟨oc5, od5, .func (PySem.W.fnOf "is_template" "is_template" (defArgs S_is_template) (defBody S_is_template) (defScope S_is_template) .none kV5 dc5 pm5 an5 cd5 ct5), sl5⟩) (c5 : PySem.W.codeIn K cd5 "is_template" = true) (k5 : PySem.W.keepIn K (.ref f5) = true)
  (a6 : PySem.W.nsIn K mainGlobals "need_template" = some (some (.ref f6))) (l6 : K.lookup f6 = some ⟨oc6, od6, .func (PySem.W.fnOf "need_template" "need_template" (defArgs S_need_template) (defBody S_need_template) (defScope S_need_template) .none kV6 dc6 pm6 an6 cd6 ct6), sl6⟩) (c6 : PySem.W.codeIn K cd6 "need_template" = true) (k6 : PySem.W.keepIn K (.ref f6) = true)
  (a7 : PySem.W.nsIn K mainGlobals "is_value" = some (some (.ref f7))) (l7 : K.lookup f7 = some ⟨oc7, od7, .func (PySem.W.fnOf "is_value" "is_value" (defArgs S_is_value) (defBody S_is_value) (defScope S_is_value) .none kV7 dc7 pm7 an7 cd7 ct7), sl7⟩) (c7 : PySem.W.codeIn K cd7 "is_value" = true) (k7 : PySem.W.keepIn K (.ref f7) = true)
  (a8 : PySem.W.nsIn K mainGlobals "is_filling" = some (some (.ref f8))) (l8 : K.lookup f8 = some ⟨oc8, od8, .func (PySem.W.fnOf "is_filling" "is_filling" (defArgs S_is_filling) (defBody S_is_filling) (defScope S_is_filling) .none kV8 dc8 pm8 an8 cd8 ct8), sl8⟩) (c8 : PySem.W.codeIn K cd8 "is_filling" = true) (k8 : PySem.W.keepIn K (.ref f8) = true)
  (a9 : PySem.W.nsIn K mainGlobals "is_record" = some (some (.ref f9))) (l9 : K.lookup f9 = some ⟨oc9, od9, .func (PySem.W.fnOf "is_record" "is_record" (defArgs S_is_record) (defBody S_is_record) (defScope S_is_record) .none kV9 dc9 pm9 an9 cd9 ct9), sl9⟩) (c9 : PySem.W.codeIn K cd9 "is_record" = true) (k9 : PySem.W.keepIn K (.ref f9) = true)
  (a10 : PySem.W.nsIn K mainGlobals "are_alike" = some (some (.ref f10))) (l10 : K.lookup f10 = some ⟨oc10, od10, .func (PySem.W.fnOf "are_alike" "are_alike" (defArgs S_are_alike) (defBody S_are_alike) (defScope S_are_alike) .none kV10 dc10 pm10 an10 cd10 ct10), sl10⟩) (c10 : PySem.W.codeIn K cd10 "are_alike" = true) (k10 : PySem.W.keepIn K (.ref f10) = true)
  (a11 : PySem.W.nsIn K mainGlobals "alike" = some (some (.ref f11))) (l11 : K.lookup f11 = some ⟨oc11, od11, .func (PySem.W.fnOf "alike" "alike" (defArgs S_alike) (defBody S_alike) (defScope S_alike) .none kV11 dc11 pm11 an11 cd11 ct11), sl11⟩) (c11 : PySem.W.codeIn K cd11 "alike" = true) (k11 : PySem.W.keepIn K (.ref f11) = true)
  (a12 : PySem.W.nsIn K mainGlobals "with_value" = some (some (.ref f12))) (l12 : K.lookup f12 = some ⟨oc12, od12, .func (PySem.W.fnOf "with_value" "with_value" (defArgs S_with_value) (defBody S_with_value) (defScope S_with_value) .none kV12 dc12 pm12 an12 cd12 ct12), sl12⟩) (c12 : PySem.W.codeIn K cd12 "with_value" = true) (k12 : PySem.W.keepIn K (.ref f12) = true)
  (a13 : PySem.W.nsIn K mainGlobals "values_of" = some (some (.ref f13))) (l13 : K.lookup f13 = some ⟨oc13, od13, .func (PySem.W.fnOf "values_of" "values_of" (defArgs S_values_of) (defBody S_values_of) (defScope S_values_of) .none kV13 dc13 pm13 an13 cd13 ct13), sl13⟩) (c13 : PySem.W.codeIn K cd13 "values_of" = true) (k13 : PySem.W.keepIn K (.ref f13) = true)
  (a14 : PySem.W.nsIn K mainGlobals "shapes" = some (some (.ref f14))) (l14 : K.lookup f14 = some ⟨oc14, od14, .func (PySem.W.fnOf "shapes" "shapes" (defArgs S_shapes) (defBody S_shapes) (defScope S_shapes) .none kV14 dc14 pm14 an14 cd14 ct14), sl14⟩) (c14 : PySem.W.codeIn K cd14 "shapes" = true) (k14 : PySem.W.keepIn K (.ref f14) = true)
  (a15 : PySem.W.nsIn K mainGlobals "row_of" = some (some (.ref f15))) (l15 : K.lookup f15 = some ⟨oc15, od15, .func (PySem.W.fnOf "row_of" "row_of" (defArgs S_row_of) (defBody S_row_of) (defScope S_row_of) .none kV15 dc15 pm15 an15 cd15 ct15), sl15⟩) (c15 : PySem.W.codeIn K cd15 "row_of" = true) (k15 : PySem.W.keepIn K (.ref f15) = true)
  (a16 : PySem.W.nsIn K mainGlobals "worded" = some (some (.ref f16))) (l16 : K.lookup f16 = some ⟨oc16, od16, .func (PySem.W.fnOf "worded" "worded" (defArgs S_worded) (defBody S_worded) (defScope S_worded) .none kV16 dc16 pm16 an16 cd16 ct16), sl16⟩) (c16 : PySem.W.codeIn K cd16 "worded" = true) (k16 : PySem.W.keepIn K (.ref f16) = true)
  (a17 : PySem.W.nsIn K mainGlobals "words_for" = some (some (.ref f17))) (l17 : K.lookup f17 = some ⟨oc17, od17, .func (PySem.W.fnOf "words_for" "words_for" (defArgs S_words_for) (defBody S_words_for) (defScope S_words_for) .none kV17 dc17 pm17 an17 cd17 ct17), sl17⟩) (c17 : PySem.W.codeIn K cd17 "words_for" = true) (k17 : PySem.W.keepIn K (.ref f17) = true)
  (a18 : PySem.W.nsIn K mainGlobals "difference" = some (some (.ref f18))) (l18 : K.lookup f18 = some ⟨oc18, od18, .func (PySem.W.fnOf "difference" "difference" (defArgs S_difference) (defBody S_difference) (defScope S_difference) .none kV18 dc18 pm18 an18 cd18 ct18), sl18⟩) (c18 : PySem.W.codeIn K cd18 "difference" = true) (k18 : PySem.W.keepIn K (.ref f18) = true)
  (a19 : PySem.W.nsIn K mainGlobals "_law_draw" = some (some (.ref f19))) (l19 : K.lookup f19 = some ⟨oc19, od19, .func (PySem.W.fnOf "_law_draw" "_law_draw" (defArgs S_law_draw) (defBody S_law_draw) (defScope S_law_draw) .none kV19 dc19 pm19 an19 cd19 ct19), sl19⟩) (c19 : PySem.W.codeIn K cd19 "_law_draw" = true) (k19 : PySem.W.keepIn K (.ref f19) = true)
  (a20 : PySem.W.nsIn K mainGlobals "_law_pick" = some (some (.ref f20))) (l20 : K.lookup f20 = some ⟨oc20, od20, .func (PySem.W.fnOf "_law_pick" "_law_pick" (defArgs S_law_pick) (defBody S_law_pick) (defScope S_law_pick) .none kV20 dc20 pm20 an20 cd20 ct20), sl20⟩) (c20 : PySem.W.codeIn K cd20 "_law_pick" = true) (k20 : PySem.W.keepIn K (.ref f20) = true)
  (a21 : PySem.W.nsIn K mainGlobals "_law_parts" = some (some (.ref f21))) (l21 : K.lookup f21 = some ⟨oc21, od21, .func (PySem.W.fnOf "_law_parts" "_law_parts" (defArgs S_law_parts) (defBody S_law_parts) (defScope S_law_parts) .none kV21 dc21 pm21 an21 cd21 ct21), sl21⟩) (c21 : PySem.W.codeIn K cd21 "_law_parts" = true) (k21 : PySem.W.keepIn K (.ref f21) = true)
  (a22 : PySem.W.nsIn K mainGlobals "_law_many" = some (some (.ref f22))) (l22 : K.lookup f22 = some ⟨oc22, od22, .func (PySem.W.fnOf "_law_many" "_law_many" (defArgs S_law_many) (defBody S_law_many) (defScope S_law_many) .none kV22 dc22 pm22 an22 cd22 ct22), sl22⟩) (c22 : PySem.W.codeIn K cd22 "_law_many" = true) (k22 : PySem.W.keepIn K (.ref f22) = true)
  (a23 : PySem.W.nsIn K mainGlobals "_law_template" = some (some (.ref f23))) (l23 : K.lookup f23 = some ⟨oc23, od23, .func (PySem.W.fnOf "_law_template" "_law_template" (defArgs S_law_template) (defBody S_law_template) (defScope S_law_template) .none kV23 dc23 pm23 an23 cd23 ct23), sl23⟩) (c23 : PySem.W.codeIn K cd23 "_law_template" = true) (k23 : PySem.W.keepIn K (.ref f23) = true)
  (a24 : PySem.W.nsIn K mainGlobals "_law_record" = some (some (.ref f24))) (l24 : K.lookup f24 = some ⟨oc24, od24, .func (PySem.W.fnOf "_law_record" "_law_record" (defArgs S_law_record) (defBody S_law_record) (defScope S_law_record) .none kV24 dc24 pm24 an24 cd24 ct24), sl24⟩) (c24 : PySem.W.codeIn K cd24 "_law_record" = true) (k24 : PySem.W.keepIn K (.ref f24) = true)
  (a25 : PySem.W.nsIn K mainGlobals "_law_fill" = some (some (.ref f25))) (l25 : K.lookup f25 = some ⟨oc25, od25, .func (PySem.W.fnOf "_law_fill" "_law_fill" (defArgs S_law_fill) (defBody S_law_fill) (defScope S_law_fill) .none kV25 dc25 pm25 an25 cd25 ct25), sl25⟩) (c25 : PySem.W.codeIn K cd25 "_law_fill" = true) (k25 : PySem.W.keepIn K (.ref f25) = true)
  (a26 : PySem.W.nsIn K mainGlobals "_law_size" = some (some (.ref f26))) (l26 : K.lookup f26 = some ⟨oc26, od26, .func (PySem.W.fnOf "_law_size" "_law_size" (defArgs S_law_size) (defBody S_law_size) (defScope S_law_size) .none kV26 dc26 pm26 an26 cd26 ct26), sl26⟩) (c26 : PySem.W.codeIn K cd26 "_law_size" = true) (k26 : PySem.W.keepIn K (.ref f26) = true)
  (a27 : PySem.W.nsIn K mainGlobals "_law_records" = some (some (.ref f27))) (l27 : K.lookup f27 = some ⟨oc27, od27, .func (PySem.W.fnOf "_law_records" "_law_records" (defArgs S_law_records) (defBody S_law_records) (defScope S_law_records) .none kV27 dc27 pm27 an27 cd27 ct27), sl27⟩) (c27 : PySem.W.codeIn K cd27 "_law_records" = true) (k27 : PySem.W.keepIn K (.ref f27) = true)
  (a28 : PySem.W.nsIn K mainGlobals "_law_changed" = some (some (.ref f28))) (l28 : K.lookup f28 = some ⟨oc28, od28, .func (PySem.W.fnOf "_law_changed" "_law_changed" (defArgs S_law_changed) (defBody S_law_changed) (defScope S_law_changed) .none kV28 dc28 pm28 an28 cd28 ct28), sl28⟩) (c28 : PySem.W.codeIn K cd28 "_law_changed" = true) (k28 : PySem.W.keepIn K (.ref f28) = true)
  (a29 : PySem.W.nsIn K mainGlobals "law" = some (some (.ref f29))) (l29 : K.lookup f29 = some ⟨oc29, od29, .func (PySem.W.fnOf "law" "law" (defArgs S_law) (defBody S_law) (defScope S_law) .none kV29 dc29 pm29 an29 cd29 ct29), sl29⟩) (c29 : PySem.W.codeIn K cd29 "law" = true) (k29 : PySem.W.keepIn K (.ref f29) = true)
  (z_all : PySem.W.nsIn K mainGlobals "all" = some none)
  (z_any : PySem.W.nsIn K mainGlobals "any" = some none)
  (z_dict : PySem.W.nsIn K mainGlobals "dict" = some none)
  (z_enumerate : PySem.W.nsIn K mainGlobals "enumerate" = some none)
  (z_isinstance : PySem.W.nsIn K mainGlobals "isinstance" = some none)
  (z_len : PySem.W.nsIn K mainGlobals "len" = some none)
  (z_list : PySem.W.nsIn K mainGlobals "list" = some none)
  (z_range : PySem.W.nsIn K mainGlobals "range" = some none)
  (z_set : PySem.W.nsIn K mainGlobals "set" = some none)
  (z_sorted : PySem.W.nsIn K mainGlobals "sorted" = some none)
  (z_str : PySem.W.nsIn K mainGlobals "str" = some none)
  (z_sum : PySem.W.nsIn K mainGlobals "sum" = some none)
  (z_tuple : PySem.W.nsIn K mainGlobals "tuple" = some none)
  (z_zip : PySem.W.nsIn K mainGlobals "zip" = some none)
  (g_ALL_PARTS : PySem.W.nsIn K mainGlobals "ALL_PARTS" = some (some (.int 12 t_ALL_PARTS)))
  (g_DEPTH : PySem.W.nsIn K mainGlobals "DEPTH" = some (some (.int 3 t_DEPTH)))
  (g_ITEMS : PySem.W.nsIn K mainGlobals "ITEMS" = some (some (.int 4 t_ITEMS)))
  (g_LETTERS : PySem.W.nsIn K mainGlobals "LETTERS" = some (some (.str "abcdefghijklmnopqrstuvwxyz" t_LETTERS)))
  (g_LITERAL : PySem.W.nsIn K mainGlobals "LITERAL" = some (some (.str "abcdefghijklmnopqrstuvwxyz .,:-/" t_LITERAL)))
  (g_PARTS : PySem.W.nsIn K mainGlobals "PARTS" = some (some (.int 6 t_PARTS)))
  (g_SECTIONS : PySem.W.nsIn K mainGlobals "SECTIONS" = some (some (.int 4 t_SECTIONS)))
  (g_WORD : PySem.W.nsIn K mainGlobals "WORD" = some (some (.int 8 t_WORD)))
  (q2_InvalidTemplate : PySem.W.nsIn K mainGlobals "InvalidTemplate" = some (some (.ref C_InvalidTemplate))) (q1_InvalidTemplate : PySem.W.excIn K C_InvalidTemplate [.type "ValueError", .type "Exception", .type "BaseException", .type "object"] "ValueError.__new__" = true) (q3_InvalidTemplate : PySem.W.keepIn K (.ref C_InvalidTemplate) = true) (q4_InvalidTemplate : PySem.W.subIn K (.ref C_InvalidTemplate) (.type "BaseException") = some true) (q5_InvalidTemplate : PySem.W.typeIn K (.ref C_InvalidTemplate) = some (.type "type"))
  (q2_NotAlike : PySem.W.nsIn K mainGlobals "NotAlike" = some (some (.ref C_NotAlike))) (q1_NotAlike : PySem.W.excIn K C_NotAlike [.type "ValueError", .type "Exception", .type "BaseException", .type "object"] "ValueError.__new__" = true) (q3_NotAlike : PySem.W.keepIn K (.ref C_NotAlike) = true) (q4_NotAlike : PySem.W.subIn K (.ref C_NotAlike) (.type "BaseException") = some true) (q5_NotAlike : PySem.W.typeIn K (.ref C_NotAlike) = some (.type "type")) :
    ∃ fd : FuncData, (∀ (s : Shared) (v : Value), BindsTo s fd ⟨[v], []⟩ [("_law_script", v)]) ∧ ∀ base : Heap, K.In base → base.Ns mainGlobals mg → FnOk l.prog w K mg base (L2.CX l.prog w) 16 fa fd ["_law_script"] (spLaw K) := by
  have e := hfa.symm.trans (PySem.W.mg_of X G a29)
  cases e
  let T : Txt K mg := {
    cm := fun n => if n = 0 then C_InvalidTemplate else if n = 2 then C_NotAlike else 0,
    f_is_over := f0, d_is_over := _, F_is_over := fun_mk (st := S_is_over) l0 c0 k0, b_is_over := (fun_mk (st := S_is_over) l0 c0 k0).binds (fun _ _ _ _ _ _ us hl => match us, hl with | [_, _, _, _], _ => rfl), m_is_over := PySem.W.mg_of X G a0, k_is_over := k0,
    f_are_parts := f1, d_are_parts := _, F_are_parts := fun_mk (st := S_are_parts) l1 c1 k1, b_are_parts := (fun_mk (st := S_are_parts) l1 c1 k1).binds (fun _ _ _ _ _ _ us hl => match us, hl with | [_, _], _ => rfl), m_are_parts := PySem.W.mg_of X G a1, k_are_parts := k1,
    f_is_part := f2, d_is_part := _, F_is_part := fun_mk (st := S_is_part) l2 c2 k2, b_is_part := (fun_mk (st := S_is_part) l2 c2 k2).binds (fun _ _ _ _ _ _ us hl => match us, hl with | [_, _], _ => rfl), m_is_part := PySem.W.mg_of X G a2, k_is_part := k2,
    f_inner := f3, d_inner := _, F_inner := fun_mk (st := S_inner) l3 c3 k3, b_inner := (fun_mk (st := S_inner) l3 c3 k3).binds (fun _ _ _ _ _ _ us hl => match us, hl with | [_], _ => rfl), m_inner := PySem.W.mg_of X G a3, k_inner := k3,
    f_many_parts := f4, d_many_parts := _, F_many_parts := fun_mk (st := S_many_parts) l4 c4 k4, b_many_parts := (fun_mk (st := S_many_parts) l4 c4 k4).binds (fun _ _ _ _ _ _ us hl => match us, hl with | [_], _ => rfl), m_many_parts := PySem.W.mg_of X G a4, k_many_parts := k4,
    f_is_template := f5, d_is_template := _, F_is_template := fun_mk (st := S_is_template) l5 c5 k5, b_is_template := (fun_mk (st := S_is_template) l5 c5 k5).binds (fun _ _ _ _ _ _ us hl => match us, hl with | [_], _ => rfl), m_is_template := PySem.W.mg_of X G a5, k_is_template := k5,
    f_need_template := f6, d_need_template := _, F_need_template := fun_mk (st := S_need_template) l6 c6 k6, b_need_template := (fun_mk (st := S_need_template) l6 c6 k6).binds (fun _ _ _ _ _ _ us hl => match us, hl with | [_], _ => rfl), m_need_template := PySem.W.mg_of X G a6, k_need_template := k6,
    f_is_value := f7, d_is_value := _, F_is_value := fun_mk (st := S_is_value) l7 c7 k7, b_is_value := (fun_mk (st := S_is_value) l7 c7 k7).binds (fun _ _ _ _ _ _ us hl => match us, hl with | [_, _], _ => rfl), m_is_value := PySem.W.mg_of X G a7, k_is_value := k7,
    f_is_filling := f8, d_is_filling := _, F_is_filling := fun_mk (st := S_is_filling) l8 c8 k8, b_is_filling := (fun_mk (st := S_is_filling) l8 c8 k8).binds (fun _ _ _ _ _ _ us hl => match us, hl with | [_, _], _ => rfl), m_is_filling := PySem.W.mg_of X G a8, k_is_filling := k8,
    f_is_record := f9, d_is_record := _, F_is_record := fun_mk (st := S_is_record) l9 c9 k9, b_is_record := (fun_mk (st := S_is_record) l9 c9 k9).binds (fun _ _ _ _ _ _ us hl => match us, hl with | [_, _], _ => rfl), m_is_record := PySem.W.mg_of X G a9, k_is_record := k9,
    f_are_alike := f10, d_are_alike := _, F_are_alike := fun_mk (st := S_are_alike) l10 c10 k10, b_are_alike := (fun_mk (st := S_are_alike) l10 c10 k10).binds (fun _ _ _ _ _ _ us hl => match us, hl with | [_, _], _ => rfl), m_are_alike := PySem.W.mg_of X G a10, k_are_alike := k10,
    f_alike := f11, d_alike := _, F_alike := fun_mk (st := S_alike) l11 c11 k11, b_alike := (fun_mk (st := S_alike) l11 c11 k11).binds (fun _ _ _ _ _ _ us hl => match us, hl with | [_, _], _ => rfl), m_alike := PySem.W.mg_of X G a11, k_alike := k11,
    f_with_value := f12, d_with_value := _, F_with_value := fun_mk (st := S_with_value) l12 c12 k12, b_with_value := (fun_mk (st := S_with_value) l12 c12 k12).binds (fun _ _ _ _ _ _ us hl => match us, hl with | [_, _, _], _ => rfl), m_with_value := PySem.W.mg_of X G a12, k_with_value := k12,
    f_values_of := f13, d_values_of := _, F_values_of := fun_mk (st := S_values_of) l13 c13 k13, b_values_of := (fun_mk (st := S_values_of) l13 c13 k13).binds (fun _ _ _ _ _ _ us hl => match us, hl with | [_], _ => rfl), m_values_of := PySem.W.mg_of X G a13, k_values_of := k13,
    f_shapes := f14, d_shapes := _, F_shapes := fun_mk (st := S_shapes) l14 c14 k14, b_shapes := (fun_mk (st := S_shapes) l14 c14 k14).binds (fun _ _ _ _ _ _ us hl => match us, hl with | [_], _ => rfl), m_shapes := PySem.W.mg_of X G a14, k_shapes := k14,
    f_row_of := f15, d_row_of := _, F_row_of := fun_mk (st := S_row_of) l15 c15 k15, b_row_of := (fun_mk (st := S_row_of) l15 c15 k15).binds (fun _ _ _ _ _ _ us hl => match us, hl with | [_, _, _], _ => rfl), m_row_of := PySem.W.mg_of X G a15, k_row_of := k15,
    f_worded := f16, d_worded := _, F_worded := fun_mk (st := S_worded) l16 c16 k16, b_worded := (fun_mk (st := S_worded) l16 c16 k16).binds (fun _ _ _ _ _ _ us hl => match us, hl with | [_, _, _, _], _ => rfl), m_worded := PySem.W.mg_of X G a16, k_worded := k16,
    f_words_for := f17, d_words_for := _, F_words_for := fun_mk (st := S_words_for) l17 c17 k17, b_words_for := (fun_mk (st := S_words_for) l17 c17 k17).binds (fun _ _ _ _ _ _ us hl => match us, hl with | [_, _], _ => rfl), m_words_for := PySem.W.mg_of X G a17, k_words_for := k17,
    f_difference := f18, d_difference := _, F_difference := fun_mk (st := S_difference) l18 c18 k18, b_difference := (fun_mk (st := S_difference) l18 c18 k18).binds (fun _ _ _ _ _ _ us hl => match us, hl with | [_, _], _ => rfl), m_difference := PySem.W.mg_of X G a18, k_difference := k18,
    f__law_draw := f19, d__law_draw := _, F__law_draw := fun_mk (st := S_law_draw) l19 c19 k19, b__law_draw := (fun_mk (st := S_law_draw) l19 c19 k19).binds (fun _ _ _ _ _ _ us hl => match us, hl with | [_, _, _], _ => rfl), m__law_draw := PySem.W.mg_of X G a19, k__law_draw := k19,
    f__law_pick := f20, d__law_pick := _, F__law_pick := fun_mk (st := S_law_pick) l20 c20 k20, b__law_pick := (fun_mk (st := S_law_pick) l20 c20 k20).binds (fun _ _ _ _ _ _ us hl => match us, hl with | [_, _, _], _ => rfl), m__law_pick := PySem.W.mg_of X G a20, k__law_pick := k20,
    f__law_parts := f21, d__law_parts := _, F__law_parts := fun_mk (st := S_law_parts) l21 c21 k21, b__law_parts := (fun_mk (st := S_law_parts) l21 c21 k21).binds (fun _ _ _ _ _ _ us hl => match us, hl with | [_, _, _, _, _], _ => rfl), m__law_parts := PySem.W.mg_of X G a21, k__law_parts := k21,
    f__law_many := f22, d__law_many := _, F__law_many := fun_mk (st := S_law_many) l22 c22 k22, b__law_many := (fun_mk (st := S_law_many) l22 c22 k22).binds (fun _ _ _ _ _ _ us hl => match us, hl with | [_], _ => rfl), m__law_many := PySem.W.mg_of X G a22, k__law_many := k22,
    f__law_template := f23, d__law_template := _, F__law_template := fun_mk (st := S_law_template) l23 c23 k23, b__law_template := (fun_mk (st := S_law_template) l23 c23 k23).binds (fun _ _ _ _ _ _ us hl => match us, hl with | [_, _, _, _], _ => rfl), m__law_template := PySem.W.mg_of X G a23, k__law_template := k23,
    f__law_record := f24, d__law_record := _, F__law_record := fun_mk (st := S_law_record) l24 c24 k24, b__law_record := (fun_mk (st := S_law_record) l24 c24 k24).binds (fun _ _ _ _ _ _ us hl => match us, hl with | [_, _, _], _ => rfl), m__law_record := PySem.W.mg_of X G a24, k__law_record := k24,
    f__law_fill := f25, d__law_fill := _, F__law_fill := fun_mk (st := S_law_fill) l25 c25 k25, b__law_fill := (fun_mk (st := S_law_fill) l25 c25 k25).binds (fun _ _ _ _ _ _ us hl => match us, hl with | [_, _], _ => rfl), m__law_fill := PySem.W.mg_of X G a25, k__law_fill := k25,
    f__law_size := f26, d__law_size := _, F__law_size := fun_mk (st := S_law_size) l26 c26 k26, b__law_size := (fun_mk (st := S_law_size) l26 c26 k26).binds (fun _ _ _ _ _ _ us hl => match us, hl with | [_], _ => rfl), m__law_size := PySem.W.mg_of X G a26, k__law_size := k26,
    f__law_records := f27, d__law_records := _, F__law_records := fun_mk (st := S_law_records) l27 c27 k27, b__law_records := (fun_mk (st := S_law_records) l27 c27 k27).binds (fun _ _ _ _ _ _ us hl => match us, hl with | [_, _, _], _ => rfl), m__law_records := PySem.W.mg_of X G a27, k__law_records := k27,
    f__law_changed := f28, d__law_changed := _, F__law_changed := fun_mk (st := S_law_changed) l28 c28 k28, b__law_changed := (fun_mk (st := S_law_changed) l28 c28 k28).binds (fun _ _ _ _ _ _ us hl => match us, hl with | [_, _, _], _ => rfl), m__law_changed := PySem.W.mg_of X G a28, k__law_changed := k28,
    f_law := fa, d_law := _, F_law := fun_mk (st := S_law) l29 c29 k29, b_law := (fun_mk (st := S_law) l29 c29 k29).binds (fun _ _ _ _ _ _ us hl => match us, hl with | [_], _ => rfl), m_law := PySem.W.mg_of X G a29, k_law := k29,
    z_all := PySem.W.mg_none_of X G z_all,
    z_any := PySem.W.mg_none_of X G z_any,
    z_dict := PySem.W.mg_none_of X G z_dict,
    z_enumerate := PySem.W.mg_none_of X G z_enumerate,
    z_isinstance := PySem.W.mg_none_of X G z_isinstance,
    z_len := PySem.W.mg_none_of X G z_len,
    z_list := PySem.W.mg_none_of X G z_list,
    z_range := PySem.W.mg_none_of X G z_range,
    z_set := PySem.W.mg_none_of X G z_set,
    z_sorted := PySem.W.mg_none_of X G z_sorted,
    z_str := PySem.W.mg_none_of X G z_str,
    z_sum := PySem.W.mg_none_of X G z_sum,
    z_tuple := PySem.W.mg_none_of X G z_tuple,
    z_zip := PySem.W.mg_none_of X G z_zip,
    t_ALL_PARTS := t_ALL_PARTS, g_ALL_PARTS := PySem.W.mg_of X G g_ALL_PARTS,
    t_DEPTH := t_DEPTH, g_DEPTH := PySem.W.mg_of X G g_DEPTH,
    t_ITEMS := t_ITEMS, g_ITEMS := PySem.W.mg_of X G g_ITEMS,
    t_LETTERS := t_LETTERS, g_LETTERS := PySem.W.mg_of X G g_LETTERS,
    t_LITERAL := t_LITERAL, g_LITERAL := PySem.W.mg_of X G g_LITERAL,
    t_PARTS := t_PARTS, g_PARTS := PySem.W.mg_of X G g_PARTS,
    t_SECTIONS := t_SECTIONS, g_SECTIONS := PySem.W.mg_of X G g_SECTIONS,
    t_WORD := t_WORD, g_WORD := PySem.W.mg_of X G g_WORD,
    x_InvalidTemplate := ⟨q1_InvalidTemplate, PySem.W.mg_of X G q2_InvalidTemplate, q3_InvalidTemplate, q4_InvalidTemplate, q5_InvalidTemplate⟩,
    x_NotAlike := ⟨q1_NotAlike, PySem.W.mg_of X G q2_NotAlike, q3_NotAlike, q4_NotAlike, q5_NotAlike⟩ }
  refine ⟨T.d_law, fun s v => .of_eq rfl, fun base _ _ => law_ok T⟩
theorem walk {l : PySem.W.OpenLaw} {q : Program} {loose : List Str} {XP : (Str → Option Value) → Heap → Prop} {YP : World → Heap → Prop} {d : DefRec} {K : Params → PySem.W.Frag} (hn : l.most = some 63) (hdf : d.params.defaults = [])
    (hY : ∀ (w : World) (h : Heap), YP w h → (K w.params).In h)
    (F : ∀ (w : World) (mg : Str → Option Value) (fa : Addr) (h : Heap), (K w.params).In h → h.Ns mainGlobals mg → mg d.name = some (.ref fa) →
      ∃ fd : FuncData, (∀ (s : Shared) (u : Value), BindsTo s fd ⟨[u], []⟩ [("_law_script", u)]) ∧ ∀ base : Heap, (K w.params).In base → base.Ns mainGlobals mg → FnOk l.prog w (K w.params) mg base (L2.CX l.prog w) 16 fa fd ["_law_script"] (spLaw (K w.params))) :
    PySem.W.WalkO q loose XP YP l.row.toRowW d [] (fun f vs => PySem.call f vs) :=
  L2.walk_of (n := 63) (k := 16) (x := "_law_script") (CX := fun w => L2.CX l.prog w) (sp := fun w => spLaw (K w.params)) hn (by decide) hdf ⟨rfl, by decide, by decide⟩ hY F (fun _ _ a ns hl _ hS => ⟨a, ns, rfl, hS, hl, fun _ => rfl⟩) fun _ _ _ _ _ z => by obtain ⟨_, _, _, _, _, _, _, _, _, _, _, _, z⟩ := z; exact z
end
end LW

open PySem PySem.W PyProof.Rows
set_option maxRecDepth 100000 in
set_option maxHeartbeats 0 in
theorem PySem.Challenge.cw_mailmerge_k06_whole_difference_holds : PySem.Challenge.rw_mailmerge_k06_whole_difference.Holds := by
  w_on; o_law; k_head; (case hw => w_witness2)
  k_fill
  refine LW.walk (l := PySem.Challenge.rw_mailmerge_k06_whole_difference) rfl rfl (fun w h Y => PySem.W.kIn_of Y) ?F
  case F =>
    intro w mg fa h KX G hmg
    refine' LW.all_mk KX G hmg ?a0 ?l0 ?c0 ?k0 ?a1 ?l1 ?c1 ?k1 ?a2 ?l2 ?c2 ?k2 ?a3 ?l3 ?c3 ?k3 ?a4 ?l4 ?c4 ?k4 ?a5 ?l5 ?c5 ?k5 ?a6 ?l6 ?c6 ?k6 ?a7 ?l7 ?c7 ?k7 ?a8 ?l8 ?c8 ?k8 ?a9 ?l9 ?c9 ?k9 ?a10 ?l10 ?c10 ?k10 ?a11 ?l11 ?c11 ?k11 ?a12 ?l12 ?c12 ?k12 ?a13 ?l13 ?c13 ?k13 ?a14 ?l14 ?c14 ?k14 ?a15 ?l15 ?c15 ?k15 ?a16 ?l16 ?c16 ?k16 ?a17 ?l17 ?c17 ?k17 ?a18 ?l18 ?c18 ?k18 ?a19 ?l19 ?c19 ?k19 ?a20 ?l20 ?c20 ?k20 ?a21 ?l21 ?c21 ?k21 ?a22 ?l22 ?c22 ?k22 ?a23 ?l23 ?c23 ?k23 ?a24 ?l24 ?c24 ?k24 ?a25 ?l25 ?c25 ?k25 ?a26 ?l26 ?c26 ?k26 ?a27 ?l27 ?c27 ?k27 ?a28 ?l28 ?c28 ?k28 ?a29 ?l29 ?c29 ?k29 ?z_all ?z_any ?z_dict ?z_enumerate ?z_isinstance ?z_len ?z_list ?z_range ?z_set ?z_sorted ?z_str ?z_sum ?z_tuple ?z_zip ?g_ALL_PARTS ?g_DEPTH ?g_ITEMS ?g_LETTERS ?g_LITERAL ?g_PARTS ?g_SECTIONS ?g_WORD ?q2_InvalidTemplate ?q1_InvalidTemplate ?q3_InvalidTemplate ?q4_InvalidTemplate ?q5_InvalidTemplate ?q2_NotAlike ?q1_NotAlike ?q3_NotAlike ?q4_NotAlike ?q5_NotAlike
    (case a0 => k_is)
    (case l0 => k_is)
    (case c0 => k_is)
    (case k0 => k_is)
    (case a1 => k_is)
    (case l1 => k_is)
    (case c1 => k_is)
    (case k1 => k_is)
    (case a2 => k_is)
    (case l2 => k_is)
    (case c2 => k_is)
    (case k2 => k_is)
    (case a3 => k_is)
    (case l3 => k_is)
    (case c3 => k_is)
    (case k3 => k_is)
    (case a4 => k_is)
    (case l4 => k_is)
    (case c4 => k_is)
    (case k4 => k_is)
    (case a5 => k_is)
    (case l5 => k_is)
    (case c5 => k_is)
    (case k5 => k_is)
    (case a6 => k_is)
    (case l6 => k_is)
    (case c6 => k_is)
    (case k6 => k_is)
    (case a7 => k_is)
    (case l7 => k_is)
    (case c7 => k_is)
    (case k7 => k_is)
    (case a8 => k_is)
    (case l8 => k_is)
    (case c8 => k_is)
    (case k8 => k_is)
    (case a9 => k_is)
    (case l9 => k_is)
    (case c9 => k_is)
    (case k9 => k_is)
    (case a10 => k_is)
    (case l10 => k_is)
    (case c10 => k_is)
    (case k10 => k_is)
    (case a11 => k_is)
    (case l11 => k_is)
    (case c11 => k_is)
    (case k11 => k_is)
    (case a12 => k_is)
    (case l12 => k_is)
    (case c12 => k_is)
    (case k12 => k_is)
    (case a13 => k_is)
    (case l13 => k_is)
    (case c13 => k_is)
    (case k13 => k_is)
    (case a14 => k_is)
    (case l14 => k_is)
    (case c14 => k_is)
    (case k14 => k_is)
    (case a15 => k_is)
    (case l15 => k_is)
    (case c15 => k_is)
    (case k15 => k_is)
    (case a16 => k_is)
    (case l16 => k_is)
    (case c16 => k_is)
    (case k16 => k_is)
    (case a17 => k_is)
    (case l17 => k_is)
    (case c17 => k_is)
    (case k17 => k_is)
    (case a18 => k_is)
    (case l18 => k_is)
    (case c18 => k_is)
    (case k18 => k_is)
    (case a19 => k_is)
    (case l19 => k_is)
    (case c19 => k_is)
    (case k19 => k_is)
    (case a20 => k_is)
    (case l20 => k_is)
    (case c20 => k_is)
    (case k20 => k_is)
    (case a21 => k_is)
    (case l21 => k_is)
    (case c21 => k_is)
    (case k21 => k_is)
    (case a22 => k_is)
    (case l22 => k_is)
    (case c22 => k_is)
    (case k22 => k_is)
    (case a23 => k_is)
    (case l23 => k_is)
    (case c23 => k_is)
    (case k23 => k_is)
    (case a24 => k_is)
    (case l24 => k_is)
    (case c24 => k_is)
    (case k24 => k_is)
    (case a25 => k_is)
    (case l25 => k_is)
    (case c25 => k_is)
    (case k25 => k_is)
    (case a26 => k_is)
    (case l26 => k_is)
    (case c26 => k_is)
    (case k26 => k_is)
    (case a27 => k_is)
    (case l27 => k_is)
    (case c27 => k_is)
    (case k27 => k_is)
    (case a28 => k_is)
    (case l28 => k_is)
    (case c28 => k_is)
    (case k28 => k_is)
    (case a29 => k_is)
    (case l29 => k_is)
    (case c29 => k_is)
    (case k29 => k_is)
    (case z_all => k_is)
    (case z_any => k_is)
    (case z_dict => k_is)
    (case z_enumerate => k_is)
    (case z_isinstance => k_is)
    (case z_len => k_is)
    (case z_list => k_is)
    (case z_range => k_is)
    (case z_set => k_is)
    (case z_sorted => k_is)
    (case z_str => k_is)
    (case z_sum => k_is)
    (case z_tuple => k_is)
    (case z_zip => k_is)
    (case g_ALL_PARTS => k_is)
    (case g_DEPTH => k_is)
    (case g_ITEMS => k_is)
    (case g_LETTERS => k_is)
    (case g_LITERAL => k_is)
    (case g_PARTS => k_is)
    (case g_SECTIONS => k_is)
    (case g_WORD => k_is)
    (case q2_InvalidTemplate => k_is)
    (case q1_InvalidTemplate => k_exc)
    (case q3_InvalidTemplate => k_is)
    (case q4_InvalidTemplate => k_is)
    (case q5_InvalidTemplate => k_is)
    (case q2_NotAlike => k_is)
    (case q1_NotAlike => k_exc)
    (case q3_NotAlike => k_is)
    (case q4_NotAlike => k_is)
    (case q5_NotAlike => k_is)
#print axioms PySem.Challenge.cw_mailmerge_k06_whole_difference_holds
