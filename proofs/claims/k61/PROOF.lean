import PyProof.Rows.All
import Wide.All
import OpenK.AllK
import Wide.FinOn
import HandS.ForSpec
import HandS.ForMost
import HandS.IsInst
import HandS.CallLocal
import HandS.Defaults
import HandS.Flow
import HandS.Evl
import KE.KDictKeyed
import HandS.DictTup
import HandS.ListItems
import HandS.SetFor
import HandS.Strs
import HandS.SortInts
import HandS.SortKw
import HandS.Keys
import HandS.OwnEq
import HandS.Codes
import KE.KSortKey
import KE.KSortTup
import HandS.HeadHook1
import HandS.Walk
import HandS.Deep
import HandS.WordsExc
import HandS.ExcIs
import HandS.Small
import HandS.ExcCtx
import HandS.DeepEq
import HandS.Steps
import KE.KStateDown
import Lean
import HandS.Head0
import HandS.Head1
import HandS.Head2
import HandS.HeadEnd
import HandS.HeadHook2
import HandS.Words
import HandS.SortRule
import KE.KDictCopyH
import HandS.More
import HandS.Hot
import HandS.HotCalls
import HandS.Comp
import HandS.Iter
import HandS.CallSlots
import PyProof.StrOps2
import HandS.Style
import PySem.Challenge.RW_cellblocks_k61_sheets_filled
/-! ## GBase -/
set_option Elab.async false
set_option linter.all false
set_option maxRecDepth 100000
namespace G
open PySem PySem.Spec PyProof.Rows L2
/-! ### heaps -/
def Ex (H H' : Hp) : Prop := ∀ a o, H a = some o → H' a = some o
theorem Ex.refl (H : Hp) : Ex H H := fun _ _ h => h
theorem Ex.trans {H H1 H2 : Hp} (a : Ex H H1) (b : Ex H1 H2) : Ex H H2 := fun x o h => b x o (a x o h)
theorem Ex.new {H : Hp} {p : Addr} {o : HO} (h : H p = none) : Ex H (upd H p o) := fun a u e => by
  rw [upd_ne (ne_of_none e h)]; exact e
theorem Ex.none {H H' : Hp} {p : Addr} (e : Ex H H') (h : H' p = none) : H p = none := by
  cases q : H p with
  | none => rfl
  | some o => rw [e p o q] at h; cases h
/-- an object that may change: it stands in H, no fact of G speaks of it -/
def Mu (G H : Hp) (p : Addr) (o : HO) : Prop := H p = some o ∧ G p = none
/-- from (G, H) on to (G', H'): the facts stay, what may change stays but for the addresses of A -/
structure Stm (A : List Addr) (G H G' H' : Hp) : Prop where
  g : Ex G G'
  i : Ex G' H'
  m : ∀ q u, q ∉ A → Mu G H q u → Mu G' H' q u
abbrev St (G H G' H' : Hp) : Prop := Stm [] G H G' H'
theorem Stm.refl {A : List Addr} {G H : Hp} (e : Ex G H) : Stm A G H G H := ⟨Ex.refl G, e, fun _ _ _ h => h⟩
theorem Stm.trans {A : List Addr} {G H G1 H1 G2 H2 : Hp} (a : Stm A G H G1 H1) (b : Stm A G1 H1 G2 H2) : Stm A G H G2 H2 :=
  ⟨a.g.trans b.g, b.i, fun q u n h => b.m q u n (a.m q u n h)⟩
theorem Stm.sub {A B : List Addr} {G H G1 H1 : Hp} (a : Stm A G H G1 H1) (h : ∀ x, x ∈ A → x ∈ B) : Stm B G H G1 H1 := ⟨a.g, a.i, fun q u n m => a.m q u (fun z => n (h q z)) m⟩
theorem St.up {A : List Addr} {G H G1 H1 : Hp} (a : St G H G1 H1) : Stm A G H G1 H1 := a.sub fun _ h => nomatch h
theorem St.mu {G H G' H' : Hp} {q : Addr} {u : HO} (s : St G H G' H') (h : Mu G H q u) : Mu G' H' q u := s.m q u (fun z => nomatch z) h
/-- a new thing that won't change -/
theorem al {G H : Hp} {p : Addr} {o : HO} {Q : Hp → Prop} (hp : H p = none) (e : Ex G H) (k : ∀ G1 H1, St G H G1 H1 → G1 p = some o → Q H1) : Q (upd H p o) :=
  k (upd G p o) (upd H p o) ⟨Ex.new (e.none hp), fun a u h => by
    unfold upd at h ⊢
    split
    · rename_i c; rw [if_pos c] at h; exact h
    · rename_i c; rw [if_neg c] at h; exact e a u h, fun q u _ h => by
    have n : q ≠ p := ne_of_none h.1 hp
    exact ⟨by rw [upd_ne n]; exact h.1, by rw [upd_ne n]; exact h.2⟩⟩ upd_same
/-- a new thing that may change -/
theorem alm {G H : Hp} {p : Addr} {o : HO} {Q : Hp → Prop} (hp : H p = none) (e : Ex G H) (k : ∀ H1, St G H G H1 → Mu G H1 p o → (∀ q u, Mu G H q u → q ≠ p) → Q H1) : Q (upd H p o) :=
  k (upd H p o) ⟨Ex.refl G, e.trans (Ex.new hp), fun q u _ h => ⟨by rw [upd_ne (ne_of_none h.1 hp)]; exact h.1, h.2⟩⟩ ⟨upd_same, e.none hp⟩ fun q u h => ne_of_none h.1 hp
/-- a change -/
theorem chg {G H : Hp} {p : Addr} {o o' : HO} {Q : Hp → Prop} (hm : Mu G H p o) (e : Ex G H) (k : ∀ H1, Stm [p] G H G H1 → Mu G H1 p o' → Q H1) : Q (upd H p o') :=
  k (upd H p o') ⟨Ex.refl G, fun a u h => by rw [upd_ne (ne_of_none h hm.2)]; exact e a u h, fun q u n h => ⟨by rw [upd_ne (fun z => n (by rw [z]; exact List.mem_singleton.mpr rfl))]; exact h.1, h.2⟩⟩ ⟨upd_same, hm.2⟩
theorem alF {G H : Hp} {p : Addr} {o : HO} (hp : H p = none) (e : Ex G H) : St G H (upd G p o) (upd H p o) ∧ upd G p o p = some o := ⟨⟨Ex.new (e.none hp), fun a u h => by
    unfold upd at h ⊢
    split
    · rename_i c; rw [if_pos c] at h; exact h
    · rename_i c; rw [if_neg c] at h; exact e a u h, fun q u _ h => by
    have n : q ≠ p := ne_of_none h.1 hp
    exact ⟨by rw [upd_ne n]; exact h.1, by rw [upd_ne n]; exact h.2⟩⟩, upd_same⟩
theorem almF {G H : Hp} {p : Addr} {o : HO} (hp : H p = none) (e : Ex G H) : St G H G (upd H p o) ∧ Mu G (upd H p o) p o :=
  ⟨⟨Ex.refl G, e.trans (Ex.new hp), fun q u _ h => ⟨by rw [upd_ne (ne_of_none h.1 hp)]; exact h.1, h.2⟩⟩, ⟨upd_same, e.none hp⟩⟩
theorem chgF {G H : Hp} {p : Addr} {o o' : HO} (hm : Mu G H p o) (e : Ex G H) : Stm [p] G H G (upd H p o') ∧ Mu G (upd H p o') p o' :=
  ⟨⟨Ex.refl G, fun a u h => by rw [upd_ne (fun z => by rw [z] at h; rw [hm.2] at h; cases h)]; exact e a u h, fun q u n h => ⟨by rw [upd_ne (fun z => n (by rw [z]; exact List.mem_singleton.mpr rfl))]; exact h.1, h.2⟩⟩, ⟨upd_same, hm.2⟩⟩
/-- a step that changes only what was not there ahead -/
theorem Stm.fresh {A : List Addr} {G H G0 H0 G1 H1 : Hp} (s : St G H G0 H0) (t : Stm A G0 H0 G1 H1) (n : ∀ a ∈ A, H a = none) : St G H G1 H1 :=
  ⟨s.g.trans t.g, t.i, fun q u _ h => t.m q u (fun z => by have := n q z; rw [h.1] at this; cases this) (s.m q u (fun z => nomatch z) h)⟩
/-- from now on it won't change -/
theorem freeze {G H : Hp} {p : Addr} {o : HO} (hm : Mu G H p o) (e : Ex G H) : Stm [p] G H (upd G p o) H ∧ upd G p o p = some o :=
  ⟨⟨Ex.new hm.2, fun a u h => by
    unfold upd at h
    split at h
    · rename_i c; cases h; rw [c]; exact hm.1
    · exact e a u h, fun q u n h => ⟨h.1, by rw [upd_ne (fun z => n (by rw [z]; exact List.mem_singleton.mpr rfl))]; exact h.2⟩⟩, upd_same⟩
/-! ### what values are -/
abbrev Rp (α : Type) := Hp → V → α → Prop
def Mono {α : Type} (R : Rp α) : Prop := ∀ G G' v a, Ex G G' → R G v a → R G' v a
def IsI : Rp Int := fun _ v i => v = .int i
def IsB : Rp Bool := fun _ v b => v = .bl b
def IsS : Rp Str := fun _ v s => v = .str s
@[reducible] def optV : Option Int → V
  | none => .non
  | some i => .int i
def IsO : Rp (Option Int) := fun _ v o => v = optV o
def IsL {α : Type} (R : Rp α) : Rp (List α) := fun G v xs => ∃ p vs, v = .ref p ∧ G p = some (.lst vs) ∧ Paired (R G) vs xs
def IsT2 {α β : Type} (R : Rp α) (S : Rp β) : Rp (α × β) := fun G v z => ∃ p x y, v = .ref p ∧ G p = some (.tup [x, y]) ∧ R G x z.1 ∧ S G y z.2
def IsT3 {α β γ : Type} (R : Rp α) (S : Rp β) (T : Rp γ) : Rp (α × β × γ) := fun G v z => ∃ p x y u, v = .ref p ∧ G p = some (.tup [x, y, u]) ∧ R G x z.1 ∧ S G y z.2.1 ∧ T G u z.2.2
theorem IsI.mono : Mono IsI := fun _ _ _ _ _ h => h
theorem IsB.mono : Mono IsB := fun _ _ _ _ _ h => h
theorem IsS.mono : Mono IsS := fun _ _ _ _ _ h => h
theorem IsO.mono : Mono IsO := fun _ _ _ _ _ h => h
theorem paired_imp {α β : Type} {F F' : α → β → Prop} (h : ∀ a b, F a b → F' a b) : ∀ {xs : List α} {ys : List β}, Paired F xs ys → Paired F' xs ys
  | _, _, .nil => .nil
  | _, _, .cons r t => .cons (h _ _ r) (paired_imp h t)
theorem IsL.mono {α : Type} {R : Rp α} (m : Mono R) : Mono (IsL R) := fun G G' v xs e ⟨p, vs, hv, hp, r⟩ => ⟨p, vs, hv, e _ _ hp, paired_imp (fun a b q => m G G' a b e q) r⟩
theorem IsT2.mono {α β : Type} {R : Rp α} {S : Rp β} (m : Mono R) (n : Mono S) : Mono (IsT2 R S) := fun G G' v z e ⟨p, x, y, hv, hp, r, s⟩ => ⟨p, x, y, hv, e _ _ hp, m _ _ _ _ e r, n _ _ _ _ e s⟩
theorem IsT3.mono {α β γ : Type} {R : Rp α} {S : Rp β} {T : Rp γ} (m : Mono R) (n : Mono S) (l : Mono T) : Mono (IsT3 R S T) := fun G G' v z e ⟨p, x, y, u, hv, hp, r, s, t⟩ => ⟨p, x, y, u, hv, e _ _ hp, m _ _ _ _ e r, n _ _ _ _ e s, l _ _ _ _ e t⟩
theorem optV_int {o : Option Int} {i : Int} (h : optV o = .int i) : o = some i := by
  cases o with
  | none => cases h
  | some j => cases h; rfl
theorem paired_get {α β : Type} {F : α → β → Prop} : ∀ {xs : List α} {ys : List β} {i : Nat} {x : α}, Paired F xs ys → xs[i]? = some x → ∃ y, ys[i]? = some y ∧ F x y
  | _, _, _, _, .nil, e => by simp at e
  | _, _, 0, _, .cons r _, e => by simp at e; subst e; exact ⟨_, rfl, r⟩
  | _, _, i + 1, _, .cons _ t, e => paired_get (i := i) t (by simpa using e)
theorem paired_get' {α β : Type} {F : α → β → Prop} : ∀ {xs : List α} {ys : List β} {i : Nat} {y : β}, Paired F xs ys → ys[i]? = some y → ∃ x, xs[i]? = some x ∧ F x y
  | _, _, _, _, .nil, e => by simp at e
  | _, _, 0, _, .cons r _, e => by simp at e; subst e; exact ⟨_, rfl, r⟩
  | _, _, i + 1, _, .cons _ t, e => paired_get' (i := i) t (by simpa using e)
theorem paired_snoc {α β : Type} {F : α → β → Prop} {x : α} {y : β} (r : F x y) : ∀ {xs : List α} {ys : List β}, Paired F xs ys → Paired F (xs ++ [x]) (ys ++ [y])
  | _, _, .nil => .cons r .nil
  | _, _, .cons q t => .cons q (paired_snoc r t)
theorem paired_app {α β : Type} {F : α → β → Prop} : ∀ {xs xs' : List α} {ys ys' : List β}, Paired F xs ys → Paired F xs' ys' → Paired F (xs ++ xs') (ys ++ ys')
  | _, _, _, _, .nil, q => q
  | _, _, _, _, .cons r t, q => .cons r (paired_app t q)
theorem paired_len {α β : Type} {F : α → β → Prop} {xs : List α} {ys : List β} (h : Paired F xs ys) : xs.length = ys.length := Paired.length h
theorem paired_ints : ∀ {G : Hp} {vs : List V} {ns : List Int}, Paired (IsI G) vs ns → vs = ns.map V.int
  | _, _, _, .nil => rfl
  | _, _, _, .cons r t => by
    rw [List.map_cons, ← paired_ints t]
    cases r; rfl
theorem paired_bools : ∀ {G : Hp} {vs : List V} {ns : List Bool}, Paired (IsB G) vs ns → vs = ns.map V.bl
  | _, _, _, .nil => rfl
  | _, _, _, .cons r t => by
    rw [List.map_cons, ← paired_bools t]
    cases r; rfl
theorem ints_paired {G : Hp} : ∀ (ns : List Int), Paired (IsI G) (ns.map V.int) ns
  | [] => .nil
  | n :: r => .cons rfl (ints_paired r)
end G

/-! ## GExec -/
set_option Elab.async false
set_option linter.all false
set_option maxRecDepth 100000
namespace G
open PySem PySem.Spec PyProof.Rows L2
/-! ### steps of a reading, by its head -/
section
variable {K : PySem.W.Frag} {σ : L2.St} {H G : Hp} {Q : VK} {D : Ends}
theorem x_seq {t u : TS} (h : t { D with nx := u D } σ H) : tSeq t u D σ H := h
theorem x_next (h : D.nx σ H) : tNext D σ H := h
theorem x_asg {te : TE} {g : TG} (h : te σ H fun x H1 => g x σ H1 D.nx) : tAsg te g D σ H := h
theorem x_ret {te : TE} (h : te σ H D.rt) : tRet te D σ H := h
theorem x_retN (h : D.rt .non H) : tRetN D σ H := h
theorem x_drop {te : TE} (h : te σ H fun _ H1 => D.nx σ H1) : tDrop te D σ H := h
theorem x_ifs {c : TT} {t u : TS} (h : c σ H fun b H1 => if b = true then t D σ H1 else u D σ H1) : tIfS c t u D σ H := h
theorem x_var {i : Nat} {v : V} (e : σ[i]? = some (some v)) (h : Q v H) : tVar i σ H Q := ⟨v, e, h⟩
theorem x_c {v : V} (h : Q v H) : tC v σ H Q := h
theorem x_op {r : R2} {ta tb : TE} (h : ta σ H fun x H1 => tb σ H1 fun y H2 => r x y H2 Q) : tOp r ta tb σ H Q := h
theorem x_un {r : V → Hp → VK → Prop} {ta : TE} (h : ta σ H fun x H1 => r x H1 Q) : tUn r ta σ H Q := h
theorem x_test {te : TE} {R : Bool → Hp → Prop} (h : te σ H fun x H1 => ∃ k, x = .bl k ∧ R k H1) : tTest te σ H R := h
theorem x_B {te : TE} {R : Bool → Hp → Prop} (h : te σ H fun x H1 => ∃ k, x = .bl k ∧ R k H1) : tB te σ H R := h
theorem x_bl {k : Bool} {R : Bool → Prop} (h : R k) : ∃ k', V.bl k = .bl k' ∧ R k' := ⟨k, rfl, h⟩
theorem x_and {t u : TT} {R : Bool → Hp → Prop} (h : t σ H fun c H1 => if c = true then u σ H1 R else R false H1) : tAnd t u σ H R := h
theorem x_or {t u : TT} {R : Bool → Hp → Prop} (h : t σ H fun c H1 => if c = true then R true H1 else u σ H1 R) : tOr t u σ H R := h
theorem x_not {t : TT} {R : Bool → Hp → Prop} (h : t σ H fun c H1 => R (!c) H1) : tNot t σ H R := h
theorem x_andV {ta tb : TE} (h : ta σ H fun x H1 => ∃ c, x = .bl c ∧ if c = true then tb σ H1 Q else Q (.bl false) H1) : tAndV ta tb σ H Q := h
theorem x_orV {ta tb : TE} (h : ta σ H fun x H1 => ∃ c, x = .bl c ∧ if c = true then Q (.bl true) H1 else tb σ H1 Q) : tOrV ta tb σ H Q := h
theorem x_notV {ta : TE} (h : ta σ H fun x H1 => ∃ c, x = .bl c ∧ Q (.bl (!c)) H1) : tNotV ta σ H Q := h
theorem x_ife {t : TT} {ta tb : TE} (h : t σ H fun c H1 => if c = true then ta σ H1 Q else tb σ H1 Q) : tIf t ta tb σ H Q := h
theorem x_isN {ta : TE} (h : ta σ H fun x H1 => Q (.bl (decide (x = .non))) H1) : tIsN ta σ H Q := h
theorem x_notN {ta : TE} (h : ta σ H fun x H1 => Q (.bl (!decide (x = .non))) H1) : tNotN ta σ H Q := h
theorem x_nil {R : List V → Hp → Prop} (h : R [] H) : tNil σ H R := h
theorem x_cons {ta : TE} {tr : TA} {R : List V → Hp → Prop} (h : ta σ H fun x H1 => tr σ H1 fun xs H2 => R (x :: xs) H2) : tCons ta tr σ H R := h
theorem x_cb {r : List V → Hp → VK → Prop} {t : TA} (h : t σ H fun vs H1 => r vs H1 Q) : tCB r t σ H Q := h
theorem x_call {sp : Sp} {dvs : List V} {E : XK} {t : TA} (h : t σ H fun vs H1 => sp (vs ++ dvs) H1 Q E) : tCall sp dvs E t σ H Q := h
theorem x_callL {i : Nat} {f : Addr} {sp : Sp} {dvs : List V} {E : XK} {t : TA} (e : σ[i]? = some (some (.ref f))) (h : t σ H fun vs H1 => sp (vs ++ dvs) H1 Q E) : tCallL i f sp dvs E t σ H Q := ⟨e, h⟩
theorem x_gname {i : Nat} {v : V} {R : L2.St → Hp → Prop} (h : R (σ.set i (some v)) H) : gName i v σ H R := h
/-- ints -/
theorem x_I0 {g : Int → Int → V} {i j : Int} (h : Q (g i j) H) : rI0 g (.int i) (.int j) H Q := ⟨i, j, rfl, rfl, h⟩
theorem x_I {C : Int → Int → Prop} {g : Int → Int → V} {i j : Int} (c : C i j) (h : Q (g i j) H) : rI C g (.int i) (.int j) H Q := ⟨i, j, rfl, rfl, c, h⟩
theorem x_U {g : Int → V} {i : Int} (h : Q (g i) H) : rU g (.int i) H Q := ⟨i, rfl, h⟩
theorem x_eq {x y : V} (c : scal x y = true) (h : Q (.bl (decide (x = y))) H) : rEq x y H Q := ⟨c, h⟩
theorem x_ne {x y : V} (c : scal x y = true) (h : Q (.bl (!decide (x = y))) H) : rNe x y H Q := ⟨c, h⟩
/-- displays -/
theorem x_tup {t : TA} (h : t σ H fun xs H1 => xs.length ≤ sizeLine ∧ ∀ p, H1 p = none → Q (.ref p) (upd H1 p (.tup xs))) : tTup t σ H Q := h
theorem x_lst {t : TA} (h : t σ H fun xs H1 => xs.length ≤ sizeLine ∧ ∀ p, H1 p = none → Q (.ref p) (upd H1 p (.lst xs))) : tLst t σ H Q := h
theorem x_alT {xs : List V} (z : xs.length ≤ sizeLine) (e : Ex G H) (h : ∀ p G1 H1, St G H G1 H1 → G1 p = some (.tup xs) → Q (.ref p) H1) : xs.length ≤ sizeLine ∧ ∀ p, H p = none → Q (.ref p) (upd H p (.tup xs)) :=
  ⟨z, fun p hp => al hp e fun G1 H1 s g => h p G1 H1 s g⟩
theorem x_alL {xs : List V} (z : xs.length ≤ sizeLine) (e : Ex G H) (h : ∀ p G1 H1, St G H G1 H1 → G1 p = some (.lst xs) → Q (.ref p) H1) : xs.length ≤ sizeLine ∧ ∀ p, H p = none → Q (.ref p) (upd H p (.lst xs)) :=
  ⟨z, fun p hp => al hp e fun G1 H1 s g => h p G1 H1 s g⟩
theorem x_alLm {xs : List V} (z : xs.length ≤ sizeLine) (e : Ex G H) (h : ∀ p H1, H p = none → St G H G H1 → Mu G H1 p (.lst xs) → Q (.ref p) H1) : xs.length ≤ sizeLine ∧ ∀ p, H p = none → Q (.ref p) (upd H p (.lst xs)) :=
  ⟨z, fun p hp => alm hp e fun H1 s m _ => h p H1 hp s m⟩
end
/-! ### promises of pure defs -/
section
variable {α β γ δ ρ : Type}
def Sp1 (A : Rp α) (R : Rp ρ) (pre : α → Prop) (f : α → ρ) : Sp := fun vs H Q _ => ∃ G x a, vs = [x] ∧ Ex G H ∧ A G x a ∧ pre a ∧ ∀ G1 H1 r, St G H G1 H1 → R G1 r (f a) → Q r H1
def Sp2 (A : Rp α) (B : Rp β) (R : Rp ρ) (pre : α → β → Prop) (f : α → β → ρ) : Sp := fun vs H Q _ => ∃ G x y a b, vs = [x, y] ∧ Ex G H ∧ A G x a ∧ B G y b ∧ pre a b ∧ ∀ G1 H1 r, St G H G1 H1 → R G1 r (f a b) → Q r H1
def Sp3 (A : Rp α) (B : Rp β) (C : Rp γ) (R : Rp ρ) (pre : α → β → γ → Prop) (f : α → β → γ → ρ) : Sp := fun vs H Q _ => ∃ G x y z a b c, vs = [x, y, z] ∧ Ex G H ∧ A G x a ∧ B G y b ∧ C G z c ∧ pre a b c ∧ ∀ G1 H1 r, St G H G1 H1 → R G1 r (f a b c) → Q r H1
def Sp4 (A : Rp α) (B : Rp β) (C : Rp γ) (D : Rp δ) (R : Rp ρ) (pre : α → β → γ → δ → Prop) (f : α → β → γ → δ → ρ) : Sp := fun vs H Q _ => ∃ G x y z u a b c d, vs = [x, y, z, u] ∧ Ex G H ∧ A G x a ∧ B G y b ∧ C G z c ∧ D G u d ∧ pre a b c d ∧ ∀ G1 H1 r, St G H G1 H1 → R G1 r (f a b c d) → Q r H1
variable {A : Rp α} {B : Rp β} {C : Rp γ} {D : Rp δ} {R : Rp ρ} {G H : Hp} {Q : VK} {E : XK}
theorem u1 {vs : List V} {x : V} {a : α} {pre : α → Prop} {f : α → ρ} (e : Ex G H) (hv : vs = [x]) (ha : A G x a) (hp : pre a) (h : ∀ G1 H1 r, St G H G1 H1 → R G1 r (f a) → Q r H1) : Sp1 A R pre f vs H Q E := ⟨G, x, a, hv, e, ha, hp, h⟩
theorem u2 {vs : List V} {x y : V} {a : α} {b : β} {pre : α → β → Prop} {f : α → β → ρ} (e : Ex G H) (hv : vs = [x, y]) (ha : A G x a) (hb : B G y b) (hp : pre a b) (h : ∀ G1 H1 r, St G H G1 H1 → R G1 r (f a b) → Q r H1) : Sp2 A B R pre f vs H Q E := ⟨G, x, y, a, b, hv, e, ha, hb, hp, h⟩
theorem u3 {vs : List V} {x y z : V} {a : α} {b : β} {c : γ} {pre : α → β → γ → Prop} {f : α → β → γ → ρ} (e : Ex G H) (hv : vs = [x, y, z]) (ha : A G x a) (hb : B G y b) (hc : C G z c) (hp : pre a b c) (h : ∀ G1 H1 r, St G H G1 H1 → R G1 r (f a b c) → Q r H1) : Sp3 A B C R pre f vs H Q E := ⟨G, x, y, z, a, b, c, hv, e, ha, hb, hc, hp, h⟩
theorem u4 {vs : List V} {x y z u : V} {a : α} {b : β} {c : γ} {d : δ} {pre : α → β → γ → δ → Prop} {f : α → β → γ → δ → ρ} (e : Ex G H) (hv : vs = [x, y, z, u]) (ha : A G x a) (hb : B G y b) (hc : C G z c) (hd : D G u d) (hp : pre a b c d) (h : ∀ G1 H1 r, St G H G1 H1 → R G1 r (f a b c d) → Q r H1) : Sp4 A B C D R pre f vs H Q E := ⟨G, x, y, z, u, a, b, c, d, hv, e, ha, hb, hc, hd, hp, h⟩
end
theorem ite_b2 {A B : Prop} {b : Bool} (h1 : b = true → A) (h2 : b = false → B) : if b = true then A else B := by
  cases b with
  | true => rw [if_pos rfl]; exact h1 rfl
  | false => rw [if_neg Bool.false_ne_true]; exact h2 rfl
theorem ite_T {A B : Prop} {b : Bool} (h : b = true) (x : A) : if b = true then A else B := by rw [if_pos h]; exact x
theorem ite_F {A B : Prop} {b : Bool} (h : b = false) (x : B) : if b = true then A else B := by rw [h, if_neg Bool.false_ne_true]; exact x
/-! ### comprehensions over a list -/
def LcGo (K : PySem.W.Frag) (v : V) (gt : TG) (tt : TT) (te : TE) (vs : List Nat) (σ : L2.St) (H1 : Hp) (Q : VK) : Prop :=
  ∃ a, v = .ref a ∧ (∃ xs, SqL K H1 a xs) ∧ ∀ D, H1 D = none → ∃ W : Nat → Nat → Hp → Prop, (∃ m, W 0 m (upd H1 D (.lst []))) ∧ ∀ i m H, W i m H →
  ((Itl K a).stop i H ∧ Q (.ref D) H) ∨ ((Itl K a).go i H ∧ ∃ Nx : Hp → Prop, (∀ H', Nx H' → ∃ m', m' < m ∧ W (i + 1) m' H') ∧ ∀ x H', (Itl K a).yld i H x H' → gt x (wipe σ vs) H' fun σ2 H2 => wipe σ2 vs = wipe σ vs ∧ tt σ2 H2 fun b H3 =>
    if b = true then te σ2 H3 fun y H4 => ∃ acc, H4 D = some (.lst acc) ∧ acc.length < sizeLine ∧ Nx (upd H4 D (.lst (acc ++ [y]))) else Nx H3)
theorem x_lc {K : PySem.W.Frag} {tl te : TE} {gt : TG} {tt : TT} {vs : List Nat} {σ : L2.St} {H : Hp} {Q : VK} (h : tl σ H fun v H1 => LcGo K v gt tt te vs σ H1 Q) : tLc (iList K tl) gt tt te vs σ H Q := h
theorem sq {K : PySem.W.Frag} {H : Hp} {a : Addr} {xs : List V} (h : H a = some (.lst xs)) : SqL K H a xs := .inl (.inl h)
theorem sqt {K : PySem.W.Frag} {H : Hp} {a : Addr} {xs : List V} (h : H a = some (.tup xs)) : SqT K H a xs := .inl (.inl h)
theorem take_more {α : Type} : ∀ {l : List α} {i : Nat} {x : α}, l[i]? = some x → l.take (i + 1) = l.take i ++ [x]
  | [], i, x, h => by simp at h
  | a :: l, 0, x, h => by
    have e : a = x := Option.some.inj h
    subst e; rfl
  | a :: l, i + 1, x, h => by
    have ih := take_more (l := l) (i := i) (x := x) h
    show a :: l.take (i + 1) = a :: l.take i ++ [x]
    rw [ih]; rfl
theorem lcG {α β : Type} {K : PySem.W.Frag} {R : Rp α} {S : Rp β} (mR : Mono R) (mS : Mono S) {G H : Hp} {v : V} {xs : List α} {gt : TG} {tt : TT} {te : TE} {vs : List Nat} {σ : L2.St} {Q : VK} (f : α → Bool) (g : α → β)
    (e : Ex G H) (hx : IsL R G v xs) (hz : xs.length < sizeLine)
    (turn : ∀ (x : α) (w : V) (G1 H1 : Hp) (N0 : Hp → Prop) (N1 : VK), x ∈ xs → St G H G1 H1 → R G1 w x → (∀ G2 H2, St G1 H1 G2 H2 → f x = false → N0 H2) → (∀ G2 H2 y, St G1 H1 G2 H2 → S G2 y (g x) → f x = true → N1 y H2) →
      gt w (wipe σ vs) H1 fun σ2 H2 => wipe σ2 vs = wipe σ vs ∧ tt σ2 H2 fun b H3 => if b = true then te σ2 H3 N1 else N0 H3)
    (done : ∀ G1 H1 D, St G H G1 H1 → IsL S G1 (.ref D) ((xs.filter f).map g) → Q (.ref D) H1) : LcGo K v gt tt te vs σ H Q := by
  obtain ⟨p, ws, rfl, hp, hr⟩ := hx
  refine ⟨p, rfl, ⟨ws, sq (e _ _ hp)⟩, fun D hD => ?_⟩
  have hl : ws.length = xs.length := paired_len hr
  refine lc_list (K := K) (a := p) (xs := ws) (fun i H' => ∃ G' ys, St G H G' H' ∧ Mu G' H' D (.lst ys) ∧ Paired (S G') ys (((xs.take i).filter f).map g)) ?_ ?_ ?_ ?_
  · obtain ⟨s, m⟩ := almF (o := .lst []) hD e
    exact ⟨G, [], s, m, .nil⟩
  · rintro i H' _ ⟨G', ys, s, _, _⟩
    exact sq (s.i _ _ (s.g _ _ hp))
  · rintro i w H' hi ⟨G', ys, s, m, ps⟩
    obtain ⟨x, hxi, rx⟩ := paired_get hr hi
    have hmem : x ∈ xs := List.mem_of_getElem? hxi
    have hfl : (((xs.take i).filter f).map g).length < sizeLine := by
      refine Nat.lt_of_le_of_lt ?_ hz
      rw [List.length_map]
      refine Nat.le_trans (List.length_filter_le _ _) ?_
      rw [List.length_take]; exact Nat.min_le_right _ _
    refine turn x w G' H' _ _ hmem s (mR _ _ _ _ s.g rx) (fun G2 H2 s2 hf => ?_) (fun G2 H2 y s2 hy hf => ?_)
    · refine ⟨G2, ys, s.trans s2, s2.mu m, ?_⟩
      rw [take_more hxi, List.filter_append, List.map_append]
      have : List.filter f [x] = [] := by simp [hf]
      rw [this, List.map_nil, List.append_nil]
      exact paired_imp (fun a b q => mS _ _ a b s2.g q) ps
    · have m2 := s2.mu m
      refine ⟨ys, m2.1, ?_, ?_⟩
      · rw [paired_len ps]; exact hfl
      · obtain ⟨s3, m3⟩ := chgF (o' := .lst (ys ++ [y])) m2 s2.i
        refine ⟨G2, ys ++ [y], Stm.fresh (s.trans s2) s3 (fun a z => by rw [List.mem_singleton.mp z]; exact hD), m3, ?_⟩
        rw [take_more hxi, List.filter_append, List.map_append]
        have : List.filter f [x] = [x] := by simp [hf]
        rw [this]
        exact paired_snoc hy (paired_imp (fun a b q => mS _ _ a b s2.g q) ps)
  · rintro H' ⟨G', ys, s, m, ps⟩
    rw [hl, List.take_length] at ps
    obtain ⟨s2, g2⟩ := freeze m s.i
    exact done (upd G' D (.lst ys)) H' D (Stm.fresh s s2 (fun a z => by rw [List.mem_singleton.mp z]; exact hD)) ⟨D, ys, rfl, g2, paired_imp (fun a b q => mS _ _ a b s2.g q) ps⟩
end G

/-! ## GDict -/
set_option Elab.async false
set_option linter.all false
set_option maxRecDepth 100000
set_option maxHeartbeats 2000000
namespace G
open PySem PySem.Spec PyProof.Rows L2
/-! ### a dict whose keys are pairs of an int and an int or None -/
abbrev Rn := Int × Option Int
def nk2 : Option Int → NestedKey
  | none => .none
  | some i => .num i
def nk (r : Rn) : NestedKey := .tup [.num r.1, nk2 r.2]
theorem nk_inj {a b : Rn} (h : nk a = nk b) : a = b := by
  obtain ⟨a1, a2⟩ := a
  obtain ⟨b1, b2⟩ := b
  unfold nk at h
  injection h with h
  injection h with h1 h2
  injection h1 with h1
  injection h2 with h2 _
  cases a2 <;> cases b2 <;> simp_all [nk2]
theorem nk_depth (r : Rn) : (nk r).depth ≤ 8 := by
  obtain ⟨a, b⟩ := r
  cases b <;> simp [nk, nk2, NestedKey.depth, NestedKey.depthAll]
abbrev Xs := List (Rn × Addr × V)
abbrev Us := List (NestedKey × Addr × Value)
def RX (x : Rn × Addr × V) (u : NestedKey × Addr × Value) : Prop := u.1 = nk x.1 ∧ u.2.1 = x.2.1 ∧ RelV x.2.2 u.2.2
def dxP (P : Program) (w : World) (d : Addr) (xs : Xs) (h : Heap) : Prop :=
  (d == sysModules) = false ∧ xs.length ≤ sizeLine ∧ ∃ (us : Us) (o : Obj) (es : Array DictEntry) (ep : Nat), Paired RX xs us ∧ h.get? d = some o ∧ o.ExactDict ∧ o.data = .dict es ep ∧ es.toList = us.map (entryOfKey (nestedKind P w)) ∧ (us.map (·.1)).Nodup
def dxO (P : Program) (w : World) (d : Addr) (xs : Xs) : HO := .ext fun h => dxP P w d xs h
theorem dxO_ok {P : Program} {w : World} {H : Hp} {h : Heap} {d : Addr} {xs : Xs} (x : dxP P w d xs h) : ObjOk P w H h d (dxO P w d xs) := by
  refine ⟨x, ?_, fun h1 h2 a k => ?_⟩
  · obtain ⟨_, _, _, o, _, _, _, ho, _⟩ := x
    exact ⟨o, ho⟩
  · obtain ⟨h0, hz, us, o, es, ep, hp, ho, r⟩ := a
    exact ⟨h0, hz, us, o, es, ep, hp, k o ho, r⟩
/-- the keys' tuples stand -/
def KX (H : Hp) (xs : Xs) : Prop := ∀ x ∈ xs, H x.2.1 = some (.tup [.int x.1.1, optV x.1.2])
theorem is_key {P : Program} {w : World} {H : Hp} {h : Heap} {t : Addr} {r : Rn} (ok : HOk P w H h) (ht : H t = some (.tup [.int r.1, optV r.2])) : (nestedKind P w).is h (nk r) t := by
  obtain ⟨_, its, rv, o, h1, h2, n, h3⟩ := (show ObjOk P w H h t (.tup _) from ok t _ ht)
  refine ⟨?_, nk_depth r⟩
  obtain ⟨r1, r2⟩ := r
  cases rv with
  | cons ra rb =>
    cases rb with
    | cons rb rc =>
      cases rc
      obtain ⟨tk, rfl⟩ := ra
      refine .tup h1 h2 h3 ?_
      show NestedAll h _ [_, _]
      refine .cons (.int _ _) (.cons ?_ .nil)
      cases r2 with
      | none => cases rb; exact .none
      | some i => obtain ⟨tk2, rfl⟩ := rb; exact .int _ _
/-- the entries as the library's dict -/
theorem dx_ofH {P : Program} {w : World} {H : Hp} {h : Heap} {d : Addr} {xs : Xs} (ok : HOk P w H h) (hd : H d = some (dxO P w d xs)) (kx : KX H xs) :
    (d == sysModules) = false ∧ xs.length ≤ sizeLine ∧ ∃ us : Us, Paired RX xs us ∧ h.DictOfH (nestedKind P w) d us := by
  obtain ⟨⟨h0, hz, us, o, es, ep, hp, ho, h1, h2, h3, h4⟩, _⟩ := (show ObjOk P w H h d (dxO P w d xs) from ok d _ hd)
  refine ⟨h0, hz, us, hp, o, es, ep, ho, h1, h2, h3, fun u hu => ?_, h4⟩
  obtain ⟨j, hj⟩ := List.mem_iff_getElem?.mp hu
  obtain ⟨x, hx, r1, r2, _⟩ := paired_get' hp hj
  rw [r1, r2]
  exact is_key ok (kx x (List.mem_of_getElem? hx))
theorem dx_back {P : Program} {w : World} {h : Heap} {d : Addr} {xs : Xs} {us : Us} (h0 : (d == sysModules) = false) (hz : xs.length ≤ sizeLine) (hp : Paired RX xs us) (dd : h.DictOfH (nestedKind P w) d us) : dxP P w d xs h := by
  obtain ⟨o, es, ep, ho, h1, h2, h3, _, h4⟩ := dd
  exact ⟨h0, hz, us, o, es, ep, hp, ho, h1, h2, h3, h4⟩
def valX (xs : Xs) (r : Rn) : Option V := (xs.find? fun x => decide (x.1 = r)).map (·.2.2)
def dropX (xs : Xs) (r : Rn) : Xs := xs.filter fun x => decide (x.1 ≠ r)
theorem valX_rel : ∀ {xs : Xs} {us : Us} (r : Rn), Paired RX xs us → RelO (valX xs r) ((atKey us (nk r)).map (·.2))
  | _, _, r, .nil => trivial
  | x :: xs, u :: us, r, .cons q t => by
    unfold valX atKey
    by_cases c : x.1 = r
    · have e1 : (List.find? (fun x => decide (x.1 = r)) (x :: xs)) = some x := by rw [List.find?_cons, decide_eq_true c]
      have e2 : (List.find? (fun x => decide (x.1 = nk r)) (u :: us)) = some u := by rw [List.find?_cons, decide_eq_true (by rw [q.1, c])]
      rw [e1, e2]
      exact q.2.2
    · have e1 : (List.find? (fun x => decide (x.1 = r)) (x :: xs)) = List.find? (fun x => decide (x.1 = r)) xs := by rw [List.find?_cons, decide_eq_false c]
      have e2 : (List.find? (fun x => decide (x.1 = nk r)) (u :: us)) = List.find? (fun x => decide (x.1 = nk r)) us := by rw [List.find?_cons, decide_eq_false (fun z => c (by rw [q.1] at z; exact nk_inj z))]
      rw [e1, e2]
      exact valX_rel r t
theorem dropX_rel : ∀ {xs : Xs} {us : Us} (r : Rn), Paired RX xs us → Paired RX (dropX xs r) (withoutH us (nk r))
  | _, _, r, .nil => .nil
  | x :: xs, u :: us, r, .cons q t => by
    have ih := dropX_rel r t
    unfold dropX withoutH at ih ⊢
    by_cases c : x.1 = r
    · have e1 : decide (x.1 ≠ r) = false := by simp [c]
      have e2 : decide (u.1 ≠ nk r) = false := by simp [q.1, c]
      rw [List.filter_cons, List.filter_cons, e1, e2]
      exact ih
    · have e1 : decide (x.1 ≠ r) = true := by simp [c]
      have e2 : decide (u.1 ≠ nk r) = true := by
        have z : ¬ u.1 = nk r := fun z => c (by rw [q.1] at z; exact nk_inj z)
        simp [z]
      rw [List.filter_cons, List.filter_cons, e1, e2]
      exact .cons q ih

theorem dx_typeIs {P : Program} {w : World} {d : Addr} {xs : Xs} {s : Shared} (x : dxP P w d xs s.heap) : s.TypeIs (.ref d) "dict" ∧ ∀ a, Value.ref d = .ref a → ∃ ob, s.heap.get? a = some ob ∧ ob.dict = none := by
  obtain ⟨_, _, _, o, _, _, _, ho, h1, _⟩ := x
  refine ⟨⟨o, ho, h1.1⟩, fun a e => ?_⟩
  cases e
  exact ⟨o, ho, h1.2.1⟩
section
variable {X : Cx}
def tDNewX (P : Program) (w : World) : TE := fun _ H Q => ∀ p, H p = none → Q (.ref p) (upd H p (dxO P w p []))
theorem pe_dnewX {pos : Pos} : PE X (.Dict [] [] pos) (tDNewX X.prog X.w) := ⟨fun pins s σ H Q I h =>
  wpAny_Dict_empty ⟨.ref s.heap.objs.size, _, I.laid (a := s.heap.objs.size) (o := dxO X.prog X.w s.heap.objs.size []) (t' := s.toks) (fun _ _ q => Heap.get?_push_of_some _ q) (Nat.le_refl _)
    (dxO_ok ⟨beq_eq_false_iff_ne.mpr (Ne.symm (Nat.ne_of_lt I.big)), Nat.zero_le _, [], _, #[], 0, .nil, Heap.get?_push_size _ rfl, ⟨rfl, rfl, rfl⟩, rfl, rfl, List.nodup_nil⟩), rfl, h _ (I.hok.fresh (Nat.le_refl _))⟩⟩
/-- a method of such a dict -/
def tBMX (P : Program) (w : World) (r : V → List V → Hp → VK → Prop) (to : TE) (t : TA) : TE := fun σ H Q => to σ H fun x H1 => (∃ d xs, x = .ref d ∧ H1 d = some (dxO P w d xs)) ∧ t σ H1 fun ys H2 => r x ys H2 Q
theorem pe_bmX {o e : Expr} {es : List Expr} {to : TE} {t : TA} {name : Str} {apos cpos : Pos} {id : String} {r : V → List V → Hp → VK → Prop} (slot : Slot "dict" name id) (hty : typeOf (.builtin id) = pure (.type "method_descriptor")) (hm : MtR X id r) (ho : PE X o to) (ha : PA X (e :: es) t)
    (hbase : attributeBase o name X.env (eval o X.env) = eval o X.env := by rfl)
    (hfew : ((backTo cpos (starEach (e :: es) X.env)).all (fun x => !x.1) && (backToKw cpos (keywordEach [] X.env)).all (fun x => x.1.isSome)
      && decide ((e :: es).length + ([] : List Keyword).length + (if ([] : List Keyword).isEmpty then 0 else 1) < 30)) = true := by rfl)
    (hline : (apos.endLine == cpos.line) = true := by rfl) (hs : starEach (e :: es) X.env = (false, eval e X.env) :: starEach es X.env := by rfl) (hplain : (backTo cpos (starEach es X.env)).any (·.1) = false := by rfl) :
    PE X (.Call (.Attribute o name apos) (e :: es) [] cpos) (tBMX X.prog X.w r to t) := by
  refine ⟨fun pins s σ H Q I h => ?_⟩
  refine wpAny_Call_method_late hbase hfew hline rfl (thn (ho.run pins s σ H _ I h) fun v s1 ⟨x, H1, I1, r1, ty, q1⟩ => ?_)
  obtain ⟨d, xs, rfl, hd⟩ := ty
  cases r1
  obtain ⟨h1, h2⟩ := dx_typeIs (show ObjOk X.prog X.w H1 s1.heap d (dxO X.prog X.w d xs) from I1.hok d _ hd).1
  refine ⟨"dict", id, PySem.F.plainAttrs_dict, slot, hty, h1, h2, ?_⟩
  have hA := ha.run cpos pins s1 σ H1 _ I1 q1
  rw [hs] at hA ⊢
  refine Calls.callWith_builtin (by show (false || (backTo cpos (starEach es X.env)).any (·.1)) = false; rw [hplain] <;> rfl) (Calls.evalArgs_plain ?_)
  exact thn hA fun us s2 ⟨vs, H2, I2, r2, q2⟩ => hm pins s2 σ H2 (.ref d) vs _ us Q I2 rfl r2 q2
theorem KX.but {H : Hp} {d : Addr} {xs : Xs} {o : HO} {φ : Heap → Prop} (kx : KX H xs) (hd : H d = some (.ext φ)) : KX (upd H d o) xs := fun x hx => by
  rw [upd_ne (ne_of (kx x hx) hd (fun z => nomatch z))]; exact kx x hx
def rSetdX (P : Program) (w : World) : V → List V → Hp → VK → Prop := fun x ys H Q => ∃ (d : Addr) (xs : Xs) (t : Addr) (r : Rn) (v : V), x = .ref d ∧ ys = [.ref t, v] ∧ H d = some (dxO P w d xs) ∧ KX H xs ∧ H t = some (.tup [.int r.1, optV r.2]) ∧ xs.length < sizeLine ∧
  (∀ u, valX xs r = some u → Q u H) ∧ (valX xs r = none → Q v (upd H d (dxO P w d (xs ++ [(r, t, v)]))))
theorem room8 {A : Around} {k : Nat} (hr : Room k A) : A.in1.units + 8 < cLine := by
  have h := hr.units
  have e : A.in1.units = A.units + 1 := rfl
  omega
theorem mt_setdX {k : Nat} (hr : Room k X.A) : MtR X "dict.setdefault" (rSetdX X.prog X.w) := by
  intro pins s σ H x ys v us Q I rx rys h
  obtain ⟨d, xs, t, r, v0, rfl, rfl, hd, kx, ht, hz, q1, q2⟩ := h
  cases rx
  obtain ⟨u1, u2, rfl, r1, r2⟩ := vals2 rys
  cases r1
  obtain ⟨h0, hl, us, hp, dd⟩ := dx_ofH I.hok hd kx
  have rel := valX_rel r hp
  have hlu : us.length ≤ sizeLine := by rw [← paired_len hp]; exact hl
  refine call_setdefault_heap (hsz := hlu) (room8 hr) (is_key I.hok ht) h0 dd (fun p e => ?_) fun e h' dd' sb => ?_
  · rw [e] at rel
    obtain ⟨u, hu, ru⟩ : ∃ u, valX xs r = some u ∧ RelV u p.2 := by
      cases q : valX xs r with
      | none => rw [q] at rel; exact rel.elim
      | some u => rw [q] at rel; exact ⟨u, rfl, rel⟩
    exact ⟨u, H, I.tok _, ru, q1 u hu⟩
  · rw [e] at rel
    have hn : valX xs r = none := by
      cases q : valX xs r with
      | none => rfl
      | some u => rw [q] at rel; exact rel.elim
    rw [storedH_new e] at dd'
    have new : dxP X.prog X.w d (xs ++ [(r, t, v0)]) h' := dx_back h0 (by rw [List.length_append]; exact hz) (paired_snoc ⟨rfl, rfl, r2⟩ hp) dd'
    obtain ⟨o, _, _, ho, _⟩ := id dd'
    exact ⟨v0, _, d_write I (by rw [hd]; trivial) sb ⟨o, ho⟩ (dxO_ok new), r2, q2 hn⟩
def rPopX (P : Program) (w : World) : V → List V → Hp → VK → Prop := fun x ys H Q => ∃ (d : Addr) (xs : Xs) (t : Addr) (r : Rn) (u : V), x = .ref d ∧ ys = [.ref t] ∧ H d = some (dxO P w d xs) ∧ KX H xs ∧ H t = some (.tup [.int r.1, optV r.2]) ∧
  valX xs r = some u ∧ Q u (upd H d (dxO P w d (dropX xs r)))
theorem mt_popX {k : Nat} (hr : Room k X.A) : MtR X "dict.pop" (rPopX X.prog X.w) := by
  intro pins s σ H x ys v us Q I rx rys h
  obtain ⟨d, xs, t, r, u0, rfl, rfl, hd, kx, ht, hv, q⟩ := h
  cases rx
  obtain ⟨u1, rfl, r1⟩ := Vals.one rys
  cases r1
  obtain ⟨h0, hl, us, hp, dd⟩ := dx_ofH I.hok hd kx
  have rel := valX_rel r hp
  have hlu : us.length ≤ sizeLine := by rw [← paired_len hp]; exact hl
  rw [hv] at rel
  obtain ⟨p, e, ru⟩ : ∃ p, atKey us (nk r) = some p ∧ RelV u0 p.2 := by
    cases q : atKey us (nk r) with
    | none => rw [q] at rel; exact rel.elim
    | some p => rw [q] at rel; exact ⟨p, rfl, rel⟩
  refine call_pop_heap (more := []) (hsz := hlu) (.inl rfl) (PySem.F.args_dict_pop_2 _ _) (room8 hr) (is_key I.hok ht) h0 dd e fun h' dd' sb => ?_
  have new : dxP X.prog X.w d (dropX xs r) h' := dx_back h0 (Nat.le_trans (List.length_filter_le _ _) hl) (dropX_rel r hp) dd'
  obtain ⟨o, _, _, ho, _⟩ := id dd'
  exact ⟨u0, _, d_write I (by rw [hd]; trivial) sb ⟨o, ho⟩ (dxO_ok new), ru, q⟩
end
end G

/-! ## GDict2 -/
set_option Elab.async false
set_option linter.all false
set_option maxRecDepth 100000
set_option maxHeartbeats 2000000
namespace DT
open PySem PySem.W PySem.Calls PyProof.Rows PyProof.V PySem.Spec
section
variable {prog : Program} {w : World} {A : Around} {s : Shared} {E : Value → Shared → Prop} {es : Array DictEntry} {ep : Nat} {r d : Addr}
theorem initI {R : Result → Shared → Prop} (hh : A.handled = none) (hv : s.heap.IsItemsView r d) (hm : Raw s.heap d es ep) (S : Addr) (hSr : S ≠ r) (hSd : d ≠ S) (hS : s.heap.get? S = some { cls := .type "list", data := .seq #[] })
    (hR : ∀ h' tk acc c as, (∀ b o, b ≠ S → s.heap.get? b = some o → h'.get? b = some o) → h'.get? S = some { cls := .type "list", dict := none, data := .seq acc c, slots := #[] } → as.length = es.size → Made es S h' as →
      acc.toList = as.map Value.ref → R (.ok (.ret .none)) { s with heap := h', toks := tk }) (hn : es.size ≤ sizeLine) :
    wpAny (model prog w) A.in1 (Builtin.«list.__init__» ⟨[.ref S, .ref r], []⟩)
      (fun fin s' => match fin with | .done f => R (.ok f) s' | .again c' => c'.quiet = true ∧ codeAny (model prog w) A c' R s') (fun e s' => R (.error e) s') s := by
  show wpAny _ _ (do let old ← Builtin.List.listItems (.ref S); Builtin.List.listUpdate (.ref S) (fun _ => #[]); letGo old.toList.reverse; Builtin.List.listExtendWith (.ref S) (.ref r) .none) _ _ s
  refine wpAny_bind ?_
  unfold Builtin.List.listItems
  refine wpAny_bind (wpAny_seqItems hS rfl (wpAny_pure ?_))
  show wpAny _ _ (updateSeq S (fun _ => #[]) >>= fun _ => letGo (#[] : Array Value).toList.reverse >>= fun _ => Builtin.List.listExtendWith (.ref S) (.ref r) .none) _ _ s
  refine wpAny_bind (wpAny_updateSeq hS rfl ?_)
  have hS₂ := Heap.get?_update_self (Obj.mapSeq (fun _ => (#[] : Array Value))) hS rfl
  have oth : ∀ b o, b ≠ S → s.heap.get? b = some o → (s.heap.update S (Obj.mapSeq (fun _ => (#[] : Array Value)))).get? b = some o :=
    fun b o hb e => (Heap.get?_update_other _ _ (Ne.symm hb)).trans e
  refine wpAny_bind (wpAny_letGo ?_)
  refine extI (es := es) (ep := ep) hh (let ⟨o, ho, x⟩ := hv; ⟨o, oth r o hSr.symm ho, x⟩) (hm.at' fun o e => oth d o hSd e) S hSr hSd .none _ hS₂ (fun h' tk acc c as hk hS' hl hG hacc => ?_) hn
  exact hR h' tk acc c as (fun b o hb e => hk b o hb (oth b o hb e)) hS' hl (hG.low (Nat.le_of_lt (Heap.lt_size hS₂))) hacc
theorem callListI {Q : Value → Shared → Prop} (hh : A.handled = none) (hv : s.heap.IsItemsView r d) (hm : Raw s.heap d es ep) (hn : es.size ≤ sizeLine)
    (hQ : ∀ h' tk acc c as, (∀ b o, s.heap.get? b = some o → h'.get? b = some o) → h'.get? s.heap.objs.size = some { cls := .type "list", dict := none, data := .seq acc c, slots := #[] } → as.length = es.size → Made es s.heap.objs.size h' as →
      acc.toList = as.map Value.ref → Q (.ref s.heap.objs.size) { s with heap := h', toks := tk }) :
    wpAny (model prog w) A (call (.type "list") [.ref r]) Q E s := by
  refine callType_codes (Q₁ := fun obj s₁ => obj = .ref s.heap.objs.size ∧ s₁ = { s with heap := s.heap.push { cls := .type "list", data := .seq #[] } }) PySem.F.called_list (PySem.F.typeCall_list_1 _) PySem.F.entry_list_init
    (code_list_new _ ⟨rfl, rfl⟩) fun obj s₁ h₁ => ?_
  obtain ⟨rfl, rfl⟩ := h₁
  have hS : (s.heap.push { cls := .type "list", data := .seq #[] }).get? s.heap.objs.size = some { cls := .type "list", data := .seq #[] } := Heap.get?_push_size _ rfl
  have hr : r < s.heap.objs.size := let ⟨_, ho, _⟩ := hv; Heap.lt_size ho
  have hd : d < s.heap.objs.size := hm.lt
  refine ⟨⟨_, hS, rfl⟩, PySem.F.args_list_init_2 _ _, initI (es := es) (ep := ep) (A := A.in1) hh (let ⟨o, ho, x⟩ := hv; ⟨o, Heap.get?_push_of_some _ ho, x⟩) (hm.push _) _ (Nat.ne_of_gt hr) (Nat.ne_of_lt hd) hS (fun h' tk acc c as hk hS' hl hG hacc => ?_) hn⟩
  exact ⟨rfl, hQ h' tk acc c as (fun b o e => hk b o (Nat.ne_of_lt (Heap.lt_size e)) (Heap.get?_push_of_some _ e)) hS' hl hG hacc⟩
end
end DT
namespace G
open PySem PySem.Spec PyProof.Rows L2
/-- tuples of two, at their addresses -/
def putP : Hp → List Addr → List (V × V) → Hp
  | H, a :: as, p :: ps => putP (upd H a (.tup [p.1, p.2])) as ps
  | H, _, _ => H
theorem putP_off {b : Addr} : ∀ (as : List Addr) (ps : List (V × V)) (H : Hp), b ∉ as → putP H as ps b = H b
  | [], _, _, _ => rfl
  | _ :: _, [], _, _ => rfl
  | a :: as, p :: ps, H, h => by
    show putP (upd H a (.tup [p.1, p.2])) as ps b = H b
    rw [putP_off as ps _ (fun z => h (List.mem_cons_of_mem _ z)), upd_ne (fun z => h (by rw [z]; exact List.mem_cons_self))]
theorem putP_at : ∀ (as : List Addr) (ps : List (V × V)) (H : Hp), as.length = ps.length → as.Nodup → Paired (fun (t : Addr) (p : V × V) => putP H as ps t = some (.tup [p.1, p.2])) as ps
  | [], [], _, _, _ => .nil
  | [], _ :: _, _, h, _ => by cases h
  | _ :: _, [], _, h, _ => by cases h
  | a :: as, p :: ps, H, h, hn => by
    have hn' := List.nodup_cons.mp hn
    have ih := putP_at as ps (upd H a (.tup [p.1, p.2])) (Nat.succ.inj h) hn'.2
    refine .cons ?_ ih
    show putP (upd H a (.tup [p.1, p.2])) as ps a = some (.tup [p.1, p.2])
    rw [putP_off as ps _ hn'.1, upd_same]
def prX (x : Rn × Addr × V) : V × V := (.ref x.2.1, x.2.2)
section
variable {X : Cx}
theorem itemsX_laid {pins : List (Addr × Obj)} {σ : L2.St} {H : Hp} {s : Shared} {h' : Heap} {tk : Nat} {xs : Xs} {us : Us} {es : Array DictEntry} {acc : Array Value} {c : Nat} {as : List Addr} (I : Inv X pins σ H s) (hz : xs.length ≤ sizeLine) (hp : Paired RX xs us)
    (he : es.toList = us.map (entryOfKey (nestedKind X.prog X.w))) (hk : ∀ b o, s.heap.get? b = some o → h'.get? b = some o) (hS : h'.get? s.heap.objs.size = some { cls := .type "list", dict := none, data := .seq acc c, slots := #[] }) (hl : as.length = es.size) (hG : DT.Made es s.heap.objs.size h' as) (hacc : acc.toList = as.map Value.ref) :
    ∃ H' : Hp, (∀ b o, H b = some o → H' b = some o) ∧ H s.heap.objs.size = none ∧ (∀ t ∈ as, H t = none) ∧ s.heap.objs.size ∉ as ∧ H' s.heap.objs.size = some (.lst (as.map V.ref)) ∧ Paired (fun (t : Addr) (q : V × V) => H' t = some (.tup [q.1, q.2])) as (xs.map prX) ∧ Inv X pins σ H' { s with heap := h', toks := tk } := by
  have hes : es.size = us.length := by rw [← Array.length_toList, he, List.length_map]
  have lk : (xs.map prX).length = as.length := by rw [List.length_map, hl, hes, paired_len hp]
  have hSn : s.heap.objs.size ∉ as := fun z => Nat.lt_irrefl _ (hG.above _ z)
  have nd : as.Nodup := List.Pairwise.imp (fun {a b} (h : a < b) => Nat.ne_of_lt h) hG.rise
  have new : ∀ t ∈ as, H t = none := fun t ht => I.hok.fresh (Nat.le_of_lt (hG.above t ht))
  have newS : H s.heap.objs.size = none := I.hok.fresh (Nat.le_refl _)
  have atP := putP_at as (xs.map prX) (upd H s.heap.objs.size (.lst (as.map V.ref))) lk.symm nd
  have off : ∀ b, b ∉ as → b ≠ s.heap.objs.size → putP (upd H s.heap.objs.size (.lst (as.map V.ref))) as (xs.map prX) b = H b := fun b h1 h2 => by rw [putP_off as _ _ h1, upd_ne h2]
  have low : ∀ b o, s.heap.get? b = some o → b ∉ as ∧ b ≠ s.heap.objs.size := fun b o e => ⟨fun z => absurd (Heap.lt_size e) (Nat.not_lt.mpr (Nat.le_of_lt (hG.above b z))), Nat.ne_of_lt (Heap.lt_size e)⟩
  have kp : ∀ b u, H b = some u → (putP (upd H s.heap.objs.size (.lst (as.map V.ref))) as (xs.map prX)) b = some u := fun b u e => by
    rw [off b (fun z => by rw [new b z] at e; cases e) (fun z => by rw [z, newS] at e; cases e)]
    exact e
  have eS : putP (upd H s.heap.objs.size (.lst (as.map V.ref))) as (xs.map prX) s.heap.objs.size = some (.lst (as.map V.ref)) := by rw [putP_off as _ _ hSn, upd_same]
  refine ⟨putP (upd H s.heap.objs.size (.lst (as.map V.ref))) as (xs.map prX), kp, newS, new, hSn, eS, atP, ?_⟩
  refine I.call' (ch := []) rfl ⟨fun b o q _ _ _ => hk b o q, fun b o q _ _ _ => ⟨o.slots, hk b o q⟩, fun b o q n _ => ?_, fun b o q _ => ⟨o, hk b o q⟩, fun b xs q => kp b _ q, fun b o u q => kp b _ q, fun b ps q => ⟨#[], by rw [kp b _ q]; simp⟩⟩ (fun b u q => ?_) I.bare fun b z => by simp at z
  · obtain ⟨z1, z2⟩ := low b o q
    rw [off b z1 z2]
    exact n
  · by_cases hb : b ∈ as
    · obtain ⟨j, pk, e1, e2, e3⟩ := LiI.paired_ix atP hb
      rw [e3] at q
      cases q
      obtain ⟨en, f1, f3⟩ := hG.pairs j b e1
      rw [List.getElem?_map] at e2
      obtain ⟨x, hx, rfl⟩ := Option.map_eq_some_iff.mp e2
      obtain ⟨u, hu, r1, r2, r3⟩ := paired_get hp hx
      have f1' : es.toList[j]? = some en := by rw [Array.getElem?_toList]; exact f1
      rw [he, List.getElem?_map, hu] at f1'
      have f4 := Option.some.inj f1'
      subst f4
      refine ⟨by show 2 ≤ sizeLine; decide, [.ref u.2.1, u.2.2], .cons (by show Value.ref u.2.1 = Value.ref x.2.1; rw [r2]) (.cons r3 .nil), ⟨_, f3, rfl, _, rfl⟩⟩
    · by_cases hb2 : b = s.heap.objs.size
      · rw [hb2] at q ⊢
        rw [eS] at q
        cases q
        refine ⟨by rw [List.length_map, ← lk, List.length_map]; exact hz, acc.toList, c, by rw [hacc]; exact LiI.vals_refs as, ?_⟩
        rw [Array.toArray_toList]
        exact hS
      · rw [off b hb hb2] at q
        exact (I.hok b u q).stay (fun d v _ y => hk d v y) (fun d y => kp d _ y) fun d xs y => kp d _ y
def rItemsX (P : Program) (w : World) : V → Hp → VK → Prop := fun x H Q => ∃ (d : Addr) (xs : Xs), x = .ref d ∧ H d = some (dxO P w d xs) ∧
  ∀ (H' : Hp) (p : Addr) (ts : List Addr), (∀ b o, H b = some o → H' b = some o) → H p = none → (∀ t ∈ ts, H t = none) → p ∉ ts → H' p = some (.lst (ts.map V.ref)) → Paired (fun (t : Addr) (q : V × V) => H' t = some (.tup [q.1, q.2])) ts (xs.map prX) → Q (.ref p) H'
def tListItemsX (P : Program) (w : World) (te : TE) : TE := fun σ H Q => te σ H fun x H1 => rItemsX P w x H1 Q
theorem pe_listItemsX {e : Expr} {te : TE} {p apos cpos pos : Pos} (hc : X.calm = true) (he : PE X e te) (hg : Gl X "list") (hm : X.mg "list" = none) (hv : bootBuiltins "list" = some (.type "list")) (hbase : attributeBase e "items" X.env (eval e X.env) = eval e X.env := by rfl) (hline : (apos.endLine == cpos.line) = true := by rfl)
    (hs : starEach [.Call (.Attribute e "items" apos) [] [] cpos] X.env = (false, eval (.Call (.Attribute e "items" apos) [] [] cpos) X.env) :: starEach [] X.env := by rfl) :
    PE X (.Call (.Name "list" p) [.Call (.Attribute e "items" apos) [] [] cpos] [] pos) (tListItemsX X.prog X.w te) := by
  refine ⟨fun pins s σ H Q I hq => ?_⟩
  refine wpAny_Call_Name_kw (ld_blt I hg hm hv ?_)
  refine PyProof.Rows.callWith_type1 ?_ hs rfl
  rw [hs]
  show wpAny _ _ (spliced ((false, eval (.Call (.Attribute e "items" apos) [] [] cpos) X.env) :: backTo pos (starEach [] X.env))) _ _ s
  refine Calls.spliced_cons ?_
  refine wpAny_Call_method (T := "dict") (id := "dict.items") hbase rfl hline F.plainAttrs_dict F.slot_dict_items F.type_dict_items (thn (he.run pins s σ H _ I hq) fun u s1 ⟨x, H1, I1, rx, d, xs, ex, hd, q⟩ => ?_)
  subst ex
  obtain rfl : u = Value.ref d := rx
  obtain ⟨⟨h0, hz, us, o, es, ep, hp, ho, hx, hdat, hes, hnd⟩, _⟩ := (show ObjOk X.prog X.w H1 s1.heap d (dxO X.prog X.w d xs) from I1.hok d _ hd)
  have raw : DT.Raw s1.heap d es ep := ⟨o, ho, hx, hdat⟩
  have hsz : es.size ≤ sizeLine := by rw [← Array.length_toList, hes, List.length_map, ← paired_len hp]; exact hz
  have I2 : Inv X pins σ H1 { s1 with heap := s1.heap.push { cls := .type "dict_items", data := .fields #[.ref d] } } := I1.kept (t' := s1.toks) fun b ob q => Heap.get?_push_of_some _ q
  refine ⟨raw.typeIs, fun a e => ?_, ?_⟩
  · cases e
    exact ⟨o, ho, hx.2.1⟩
  show wpAny _ _ (callWith cpos (.builtin "dict.items") [.ref d] [] []) _ X.xe s1
  refine Calls.callWith_builtin rfl (PySem.evalArgs_none ?_)
  refine DT.callItems (es := es) (ep := ep) h0 raw ?_
  refine Calls.spliced_nil ?_
  refine DT.callListI (es := es) (ep := ep) (I1.ok.hd hc) ⟨_, Heap.get?_push_size _ rfl, rfl, rfl⟩ (raw.push _) hsz fun h' tk acc c as hk hS hl hG hacc => ?_
  obtain ⟨H', k1, k2, k3, k4, k5, k6, J⟩ := itemsX_laid (tk := tk) I2 hz hp hes hk hS hl hG hacc
  exact ⟨.ref _, H', J, rfl, q H' _ as k1 k2 k3 k4 k5 k6⟩
end
end G

/-! ## GDict3 -/
set_option Elab.async false
set_option linter.all false
set_option maxRecDepth 100000
set_option maxHeartbeats 2000000
namespace G
open PySem PySem.Spec PyProof.Rows L2
/-! ### for k, v in d.items() over such a dict, locked -/
def ItX (P : Program) (w : World) (d : Addr) (o : Obj) (xs : Xs) : It :=
  ⟨fun i H => H d = some (.frz o (dxO P w d xs)) ∧ i < xs.length, fun i H x H' => ∃ T y, xs[i]? = some y ∧ x = .ref T ∧ H T = none ∧ H' = upd H T (.tup [.ref y.2.1, y.2.2]), fun i H => H d = some (.frz o (dxO P w d xs)) ∧ xs.length ≤ i⟩
section
variable {X : Cx} {pins : List (Addr × Obj)} {σ : L2.St} {H : Hp} {s : Shared} {d : Addr} {o : Obj} {xs : Xs}
theorem frzX (I : Inv X pins σ H s) (h : H d = some (.frz o (dxO X.prog X.w d xs))) : (d == sysModules) = false ∧ s.heap.get? d = some o ∧ o.ExactDict ∧ ∃ (es : Array DictEntry) (ep : Nat) (us : Us), o.data = .dict es ep ∧ es.size = xs.length ∧ Paired RX xs us ∧ es.toList = us.map (entryOfKey (nestedKind X.prog X.w)) := by
  obtain ⟨hd, ⟨h0, hz, us, o', es, ep, hp, ho, hx, hdat, hes, _⟩, _⟩ := I.hok d _ h
  rw [hd] at ho
  cases ho
  refine ⟨h0, hd, hx, es, ep, us, hdat, ?_, hp, hes⟩
  rw [← Array.length_toList, hes, List.length_map, paired_len hp]
end
section
variable {P : Program} {w : World} {K : PySem.W.Frag} {d : Addr} {o : Obj} {es : Array DictEntry} {ep : Nat}
theorem turn_itemsX {xs : Xs} {elts : List Expr} {kk : Nat} {tpos : Pos} (it : Addr) (hod : o.data = .dict es ep) :
    Turn P w K (.Tuple elts kk tpos) (ItX P w d o xs) [it] it (fun i h => ∃ ok ov, IsItemIter h it d i xs.length ep ok ov) where
  mem := by simp
  obj := fun i h st b hb => by
    have e : b = it := by simpa using hb
    subst e
    obtain ⟨ok, ov, e⟩ := st
    exact ⟨_, e, fun v z => nomatch z⟩
  keep := fun i h h' st k => let ⟨ok, ov, e⟩ := st; ⟨ok, ov, k it (by simp) _ e⟩
  item := by
    intro X hP hw hK hc i pins s σ H E I hf st hg
    subst hP hw hK
    obtain ⟨hd, hi⟩ := hg
    obtain ⟨hs, hgd, hx, es', ep', us, hdt, hsz, hp, hes⟩ := frzX I hd
    obtain ⟨rfl, rfl⟩ := dict_ep hod hdt
    obtain ⟨y, hy⟩ : ∃ y, xs[i]? = some y := ⟨xs[i], List.getElem?_eq_getElem hi⟩
    obtain ⟨u, hu, r1, r2, r3⟩ := paired_get hp hy
    have hie : i < es'.size := by rw [hsz]; exact hi
    have hent : es'[i] = entryOfKey (nestedKind X.prog X.w) u := by
      have e1 : es'.toList[i]? = some es'[i] := by rw [Array.getElem?_toList]; exact Array.getElem?_eq_getElem hie
      rw [hes, List.getElem?_map, hu] at e1
      exact (Option.some.inj e1).symm
    have ek : es'[i].key = .ref u.2.1 := by rw [hent]; rfl
    have ev : es'[i].val = u.2.2 := by rw [hent]; rfl
    obtain ⟨ok, ov, he⟩ := st
    rw [← hsz] at he
    have hlt : it < s.heap.objs.size := Heap.lt_size he
    refine DT.nextI (es := es') (ep := ep') he ⟨o, hgd, hx, hdt⟩ hie fun h' ho hT hz hk => ?_
    rw [ek, ev] at ho hT
    refine ⟨_, rfl, wpAny_letOwnedTupleGo_items (s := { s with heap := h' }) ho fun h'' he' sb => ?_⟩
    have hT2 : h''.get? s.heap.objs.size = some { cls := .type "tuple", data := .seq #[.ref u.2.1, u.2.2] } := (sb.2 _ (Nat.ne_of_gt hlt)).trans hT
    have new : ObjOk X.prog X.w (upd H s.heap.objs.size (.tup [.ref y.2.1, y.2.2])) h'' s.heap.objs.size (.tup [.ref y.2.1, y.2.2]) :=
      ⟨by show 2 ≤ sizeLine; decide, [.ref u.2.1, u.2.2], .cons (by show Value.ref u.2.1 = Value.ref y.2.1; rw [r2]) (.cons r3 .nil), ⟨_, hT2, rfl, _, rfl⟩⟩
    have I1 : Inv X pins σ (upd H s.heap.objs.size (.tup [.ref y.2.1, y.2.2])) { s with heap := h'' } :=
      I.turnedNew (t' := s.toks) (ch := [it]) (fun b ob hb e => (sb.2 b (by simpa using hb)).trans (hk b ob (by simpa using hb) e)) hf (Nat.le_refl _) new
    refine ⟨.ref s.heap.objs.size, _, I1, rfl, ⟨_, y, hy, rfl, I.hok.fresh (Nat.le_refl _), rfl⟩, ⟨.ref u.2.1, u.2.2, ?_⟩, fun b hb => ?_⟩
    · rw [← hsz]; exact he'
    · have e : b = it := by simpa using hb
      rw [e, upd_ne (Nat.ne_of_lt hlt)]
      exact (hf it (by simp)).1
  done := by
    intro X hP hw hK hc i pins s σ H E I hf st hg
    subst hP hw hK
    obtain ⟨hd, hi⟩ := hg
    obtain ⟨f0, f1, f2, f3, f4, f5⟩ := hf it (by simp)
    obtain ⟨hs, hgd, hx, es', ep', us, hdt, hsz, hp, hes⟩ := frzX I hd
    obtain ⟨rfl, rfl⟩ := dict_ep hod hdt
    obtain ⟨ok, ov, he⟩ := st
    rw [← hsz] at he
    exact DT.endI (es := es') (ep := ep') (I.ok.hd hc) he ⟨o, hgd, hx, hdt⟩ (by omega) fun h' eb => ⟨rfl, I.turned (t' := s.toks) (fun b ob hb e => eb b ob hb e) f0 f1 f3 f4 f5⟩
  self := fun A i s Q E st h => let ⟨_, _, e⟩ := st; PySem.W.kcp_self e h
end
def iItemsX (P : Program) (w : World) (td : TE) : TI := fun σ H R => td σ H fun x H1 => ∃ d o xs, x = .ref d ∧ H1 d = some (.frz o (dxO P w d xs)) ∧ R (ItX P w d o xs) H1
section
variable {X : Cx} {e : Expr} {td : TE} {apos cpos : Pos}
theorem pi_itemsX {elts : List Expr} {kk : Nat} {tpos : Pos} (he : PE X e td) (hbase : attributeBase e "items" X.env (eval e X.env) = eval e X.env := by rfl) (hline : (apos.endLine == cpos.line) = true := by rfl) :
    PI X (.Tuple elts kk tpos) (.Call (.Attribute e "items" apos) [] [] cpos) (iItemsX X.prog X.w td) := by
  refine ⟨fun pins s σ H R I h => ?_⟩
  refine wpAny_Call_method (T := "dict") (id := "dict.items") hbase rfl hline F.plainAttrs_dict F.slot_dict_items F.type_dict_items (thn (he.run pins s σ H _ I h) fun u s1 ⟨x, H1, I1, rx, d, o, xs, ex, hd, q⟩ => ?_)
  subst ex
  obtain rfl : u = Value.ref d := rx
  obtain ⟨hs, hgd, hx, es, ep, us, hdt, hsz, hp, hes⟩ := frzX I1 hd
  have raw : DT.Raw s1.heap d es ep := ⟨o, hgd, hx, hdt⟩
  refine ⟨raw.typeIs, fun a e => ?_, ?_⟩
  · cases e
    exact ⟨o, hgd, hx.2.1⟩
  have I2 : Inv X pins σ H1 { s1 with heap := s1.heap.push { cls := .type "dict_items", data := .fields #[.ref d] } } := I1.kept (t' := s1.toks) fun b ob q => Heap.get?_push_of_some _ q
  show wpAny _ _ (callWith cpos (.builtin "dict.items") [.ref d] [] []) _ X.xe s1
  refine Calls.callWith_builtin rfl (PySem.evalArgs_none ?_)
  refine DT.callItems (es := es) (ep := ep) hs raw ?_
  refine DT.iterI (es := es) (ep := ep) ⟨_, Heap.get?_push_size _ rfl, rfl, rfl⟩ (raw.push _) (pi_one (tk := s1.toks) I2 _ (turn_itemsX _ hdt) ⟨.none, .none, ?_⟩ q)
  rw [← hsz]
  exact Heap.get?_push_size _ rfl
end
end G

/-! ## GSet -/
set_option Elab.async false
set_option linter.all false
set_option maxRecDepth 100000
set_option maxHeartbeats 4000000
namespace L2
open PySem PySem.Spec PyProof.Rows
section
variable {P : Program} {w : World} {A : Around} {E : Value → Shared → Prop} {s : Shared}
theorem call_set_lstI {l : Addr} {items : Array Value} (ns : List Int) {Q : Value → Shared → Prop} (hh : A.handled = none) (hl : s.heap.IsList l items) (hit : IntsAre items.toList ns) (hb : ns.length + 1 < scanBound)
    (h : ∀ (h' : Heap) (tk c : Nat), SetR w h' s.heap.objs.size (fun j => decide (j ∈ ns)) c → c ≤ ns.length → (∀ b o, s.heap.get? b = some o → h'.get? b = some o) → Q (.ref s.heap.objs.size) { s with heap := h', toks := tk }) :
    wpAny (model P w) A (call (.type "set") [.ref l]) Q E s := by
  have hisz : items.size = ns.length := by
    have q := IntsAre.length hit
    rw [Array.length_toList] at q
    exact q
  obtain ⟨c, tl, hmro⟩ := F.called_set.mro
  have hmade := F.called_set.made
  have hsub := F.called_set.sub
  refine wpAny_call (codeAny_of_tree ?_)
  show wpAny _ _ (callAny (.type "set") _) _ _ _
  refine wpAny_pure ⟨Code.quiet_builtin _ (by decide +kernel), codeAny_builtin F.entry_type_call ?_⟩
  rw [Around.under_plain (weight_type_call_type "set" [.ref l] []) rfl]
  have h1 := F.called_set.notType
  have h2 := F.called_set.canCreate
  have hct := F.typeCall_set_1 (.ref l)
  repeat (any_goals (first | assumption | wp_step))

  refine codeAny_mono (code_set_led1 (.ref l) (E := E) (Q₁ := fun obj s₁ => obj = .ref s.heap.objs.size ∧ s₁ = { s with heap := s.heap.push { cls := .type "set", dict := none, data := .set #[] 0 (.fresh 0 0 (!w.params.followText "set-order")) } }) ⟨rfl, rfl⟩) fun r s₁ hr => ?_
  cases r with
  | error e => exact hr
  | ok fl =>
    cases fl with
    | ret obj =>
      obtain ⟨rfl, rfl⟩ := hr
      have hS : (s.heap.push { cls := .type "set", dict := none, data := .set #[] 0 (.fresh 0 0 (!w.params.followText "set-order")) }).get? s.heap.objs.size = some { cls := .type "set", dict := none, data := .set #[] 0 (.fresh 0 0 (!w.params.followText "set-order")) } := Heap.get?_push_size _ rfl
      have hT : Shared.TypeIs { s with heap := s.heap.push { cls := .type "set", dict := none, data := .set #[] 0 (.fresh 0 0 (!w.params.followText "set-order")) } } (.ref s.heap.objs.size) "set" := ⟨_, hS, rfl⟩
      have hli := F.called_set.init.lookup
      have hbi := F.called_set.init.bind (.ref s.heap.objs.size)
      repeat (any_goals (first | assumption | wp_step))

      refine codeAny_mono (codeAny_call_builtin (R := wants (fun r s₂ => r = .none ∧ ∃ h' tk c, s₂ = { s with heap := h', toks := tk } ∧ SetR w h' s.heap.objs.size (fun j => decide (j ∈ ns)) c ∧ c ≤ ns.length ∧
          (∀ b o, s.heap.get? b = some o → h'.get? b = some o)) E) F.called_set.init.plain F.entry_set_init (check_set_init_1 hT ?_)) fun r₂ s₂ hr₂ => ?_
      · obtain ⟨ol, hol, hcl, nl, hdl⟩ := hl
        obtain ⟨ocls, odict, odata, oslots⟩ := ol
        simp only at hcl hdl
        subst hcl; subst hdl
        have hol' : (s.heap.push { cls := .type "set", dict := none, data := .set #[] 0 (.fresh 0 0 (!w.params.followText "set-order")) }).get? l = some { cls := .type "list", dict := odict, data := .seq items nl, slots := oslots } := Heap.get?_push_of_some _ hol
        have hsls := F.sub_list_set
        have hslf := F.sub_list_frozenset
        have hne : (Value.type "list" == Value.type "dict") = false := by decide
        have hl1 : (s.heap.push { cls := .type "set", dict := none, data := .set #[] 0 (.fresh 0 0 (!w.params.followText "set-order")) }).IsList l items := ⟨_, hol', rfl, nl, rfl⟩
        unfold Builtin.«set.__init__» noKeywords Builtin.Frozenset.updateFrom
        generalize hPI : pyIter = PI
        wp_walk
        subst hPI

        refine wpAny_pyIter_list hl1 ?_
        refine wpAny_bind (wpAny_runValue ?_)
        have hlS : l < s.heap.objs.size := Heap.lt_size hol
        have hh3 : A.in1.in1.in1.handled = none := by simp [hh]
        have hz1 : (s.heap.push { cls := .type "set", dict := none, data := .set #[] 0 (.fresh 0 0 (!w.params.followText "set-order")) }).objs.size = s.heap.objs.size + 1 := Heap.size_push ..
        have hneI : l ≠ (s.heap.push { cls := .type "set", dict := none, data := .set #[] 0 (.fresh 0 0 (!w.params.followText "set-order")) }).objs.size := by
          rw [Heap.size_push]; exact Nat.ne_of_lt (Nat.lt_succ_of_lt hlS)
        have hSf : s.heap.objs.size ∉ [(s.heap.push { cls := .type "set", dict := none, data := .set #[] 0 (.fresh 0 0 (!w.params.followText "set-order")) }).objs.size, l] := by
          rw [Heap.size_push]; simp only [List.mem_cons, List.mem_singleton, List.not_mem_nil, or_false, not_or]
          exact ⟨Nat.ne_of_lt (Nat.lt_succ_self _), Nat.ne_of_gt hlS⟩
        have hval : ∀ (i : Nat) (v : Value), items[i]? = some v → ∃ k t, ns[i]? = some k ∧ v = .int k t := fun i v hv => by
          have hi : i < ns.length := by rw [← hisz]; exact (Array.getElem?_eq_some_iff.mp hv).1
          obtain ⟨t, e⟩ := PyProof.Rows.IntsAre.int_at hit i v (by rw [Array.getElem?_toList]; exact hv)
          refine ⟨ns[i], t, List.getElem?_eq_getElem hi, ?_⟩
          rw [e, List.getD_eq_getElem?_getD, List.getElem?_eq_getElem hi] <;> rfl
        refine set_update_ints ((Walks.list hh3 _ l hneI items).toS) s.heap.objs.size
          hSf ns hisz hb hval (items.size - 0) 0 _ (by omega) (Nat.zero_le _)
          ⟨⟨_, Heap.get?_push_size _ rfl, rfl, rfl⟩, (hl1.push _)⟩ ?hS0 ?hR
        case hS0 =>
          have hget : ((s.heap.push { cls := .type "set", dict := none, data := .set #[] 0 (.fresh 0 0 (!w.params.followText "set-order")) }).push { cls := .type "list_iterator", data := .fields #[.ref l, .int 0 0] }).get? s.heap.objs.size
              = some { cls := .type "set", dict := none, data := .set #[] 0 (.fresh 0 0 (!w.params.followText "set-order")) } := Heap.get?_push_of_some _ hS
          exact ⟨0, Nat.le_refl 0, setR_new_at hget⟩
        case hR =>
          intro s' c' hm hc' hS'
          obtain ⟨h', g2, d', tk', os'⟩ := s'
          have eg : g2 = s.gens := hm.gens
          have ed : d' = s.drawn := hm.drawn
          have eo : os' = s.os := hm.os
          subst eg; subst ed; subst eo
          show wpAny _ _ _ _ _ _
          refine wpAny_pure ?_
          show wpAny _ _ (ret Value.none) _ _ _
          rw [hisz] at hc'
          refine wpAny_pure ⟨rfl, h', tk', c', rfl, hS', hc', fun b o e => ?_⟩
          have hb0 : b < s.heap.objs.size := Heap.lt_size e
          have hb1 : b ≠ s.heap.objs.size := Nat.ne_of_lt hb0
          have hb2 : b ≠ (s.heap.push { cls := .type "set", dict := none, data := .set #[] 0 (.fresh 0 0 (!w.params.followText "set-order")) }).objs.size := by
            rw [Heap.size_push]; exact Nat.ne_of_lt (Nat.lt_succ_of_lt hb0)
          exact hm.heap b o (by simp only [List.mem_cons, List.mem_singleton, List.not_mem_nil, or_false, not_or]; exact ⟨hb1, hb2⟩) (Heap.get?_push_of_some _ (Heap.get?_push_of_some _ e))

      · cases r₂ with
        | error e => exact hr₂
        | ok fl₂ =>
          cases fl₂ with
          | ret r =>
            obtain ⟨rfl, h', tk, c', rfl, hS', hc', hk'⟩ := hr₂
            repeat (any_goals (first | assumption | wp_step))
            exact h _ _ _ hS' hc' hk'
          | _ => exact hr₂.elim
    | _ => exact hr.elim

variable {a : Addr}
theorem sorted_setAny {S : Int → Bool} {n : Nat} {Q : Value → Shared → Prop} (R : SetR w s.heap a S n) (hh : A.handled = none)
    (hQ : ∀ s' p (out : Array Value) (c : Nat) (ns : List Int), (∀ b o, s.heap.get? b = some o → s'.heap.get? b = some o) → s'.gens = s.gens → s'.os = s.os → s.heap.objs.size ≤ p →
      s'.heap.get? p = some (seqObj "list" out c) → IntsAre out.toList ns → ns.Pairwise (· < ·) → (∀ k, k ∈ ns ↔ S k = true) → ns.length = n → Q (.ref p) s') :
    wpAny (model P w) A (call (.builtin "sorted") [.ref a]) Q E s := by
  obtain ⟨o, es, ep, t, ho, hex, hd, g, nd, hm, hb, hf, hn, hr, hl⟩ := R
  refine Calls.call_function_entry kind_sorted plain_sorted entry_sorted (args_sorted1 _) ?_
  unfold Builtin.«sorted»
  refine wpAny_bind (m := checkCount "sorted" 1 1 _) (wpAny_pure ?_)
  refine wpAny_bind (collect_set (A := A.in1) hh ⟨o, ho, hex.1, hd⟩ hf hb hr hl fun s1 vs k1 hz g1 o1 pm => ?_)
  have hvl : vs.length = n := by rw [pm.length_eq, List.length_map, Array.length_toList]; exact hn
  have hnb : n < scanBound := by rw [← hn]; exact hb
  have hI : IntsAre vs (vs.map Builtin.Re.reRawOf) := ints_of vs fun v hv => by
    obtain ⟨e, he, q⟩ := List.mem_map.mp (pm.mem_iff.mp hv)
    obtain ⟨k, tk, h1, _⟩ := g e he
    exact ⟨k, tk, by rw [← q]; exact h1⟩
  have pk : (vs.map Builtin.Re.reRawOf).Perm (es.toList.map keyOf) := by
    have q := pm.map Builtin.Re.reRawOf
    rw [List.map_map] at q
    exact q
  refine wpAny_bind (wpAny_newList ?_ (by rw [hvl]; exact Nat.le_of_lt (Nat.lt_of_lt_of_le hnb (by decide))))
  have hoL : (s1.heap.push (seqObj "list" vs.toArray 0)).get? s1.heap.objs.size = some (seqObj "list" vs.toArray 0) := Heap.get?_push_size _ rfl
  refine wpAny_bind (wpAny_holding (wpAny_call_entry slot_list_sort ⟨_, hoL, rfl⟩ entry_list_sort (SrtO.list_sort_ord SrtO.swo_int hoL (by rw [hvl]; exact Nat.le_of_lt (Nat.lt_of_lt_of_le hnb (by decide))) (fun h2 => SrtO.ints_sortable hI h2) fun out h1 h2 => ⟨_, rfl, ?_⟩) (args_list_sort _)))
  obtain ⟨a1, a2, a3⟩ := SrtO.ints_out hI h1 h2
  obtain ⟨c, hc⟩ := sortedHeap_at (vs := vs) (out := out.toArray) hoL
  have pn : (out.map SrtO.iv).Perm (es.toList.map keyOf) := a2.trans pk
  refine wpAny_pure ⟨_, rfl, hQ _ s1.heap.objs.size out.toArray c (out.map SrtO.iv) (fun b u e => ?_) g1 o1 hz hc a1 (lt_of_le_nodup (out.map SrtO.iv) a3 (pn.nodup_iff.mpr nd)) (fun k => by rw [pn.mem_iff, ← hm k]) ?_⟩
  · have q := k1 b u e
    have hlt := Heap.lt_size q
    show (sortedHeap (s1.heap.push (seqObj "list" vs.toArray 0)) s1.heap.objs.size vs out.toArray).get? b = some u
    rw [sortedHeap_old (Nat.ne_of_lt hlt) (by rw [size_push']; exact Nat.lt_succ_of_lt hlt)]
    exact Heap.get?_push_of_some _ q
  · rw [pn.length_eq, List.length_map, Array.length_toList]; exact hn
end
end L2
namespace G
open PySem PySem.Spec PyProof.Rows L2
section
variable {X : Cx}
def rSetI (K : PySem.W.Frag) (w : World) : List V → Hp → VK → Prop := fun vs H Q => ∃ (a : Addr) (ns : List Int), vs = [.ref a] ∧ SqL K H a (ns.map V.int) ∧ ns.length + 1 < scanBound ∧
  ∀ (c : Nat) (p : Addr), H p = none → Q (.ref p) (upd H p (SetO w p (fun j => decide (j ∈ ns)) c))
theorem cr_setI (hc : X.calm = true) : CallR X (.type "set") (rSetI X.K X.w) := by
  intro pins s σ H vs us Q I r h
  obtain ⟨a, ns, rfl, hs, hz, q⟩ := h
  obtain ⟨its, rv, hl, _⟩ := I.list hs
  rw [Vals.ref1 r]
  refine call_set_lstI ns (I.ok.hd hc) hl.isList (by simpa using rv.ints) hz fun h' tk c R _ hk => ?_
  exact ⟨.ref _, upd H s.heap.objs.size (SetO X.w s.heap.objs.size (fun j => decide (j ∈ ns)) c), I.laid (t' := tk) hk (Nat.le_refl _) (setO_new R), rfl, q c _ (I.hok.fresh (Nat.le_refl _))⟩
def rSortedSetA (w : World) : List V → Hp → VK → Prop := fun vs H Q => ∃ (a : Addr) (S : Int → Bool) (n : Nat), vs = [V.ref a] ∧ H a = some (SetO w a S n) ∧
  ∀ (ns : List Int) (p : Addr), ns.Pairwise (· < ·) → (∀ k : Int, k ∈ ns ↔ S k = true) → H p = none → Q (.ref p) (upd H p (.lst (ns.map V.int)))
theorem cr_sortedSetA (hc : X.calm = true) : CallR X (.builtin "sorted") (rSortedSetA X.w) := by
  intro pins s σ H vs us Q I r h
  obtain ⟨a, S, n, rfl, ha, q⟩ := h
  have R := setO_get I ha
  rw [Vals.ref1 r]
  refine sorted_setAny R (I.ok.hd hc) fun s' p out c ns k g o hp hg hi hs hm hl => ?_
  have hnb : n < scanBound := by
    obtain ⟨_, _, _, _, _, _, _, _, _, _, hb, _, hn, _⟩ := R
    rw [← hn]; exact hb
  have hlen : (ns.map V.int).length ≤ sizeLine := by rw [List.length_map, hl]; exact Nat.le_of_lt (Nat.lt_of_lt_of_le hnb (by decide))
  have hn : H p = none := I.hok.fresh hp
  obtain ⟨h', g', d', t', o'⟩ := s'
  have eo : o' = s.os := o
  have eg : g' = s.gens := g
  subst eo eg
  have J : Inv X pins σ (upd H p (.lst (ns.map V.int))) { s with heap := h', gens := s.gens, drawn := d', toks := t' } :=
    I.call (ch := []) (Un.laid k hp hn) (I.hok.laid k hp ⟨hlen, out.toList, c, vals_of_ints hi, hg⟩) I.bare (fun _ z => nomatch z)
  exact ⟨.ref p, _, J, rfl, q ns p hs hm hn⟩
end
end G

/-! ## GSort -/
set_option Elab.async false
set_option linter.all false
set_option maxRecDepth 100000
set_option maxHeartbeats 4000000
namespace G
open PySem PySem.W PySem.Calls PyProof.Rows PySem.Spec L2
/-- the key def's promise: a new tuple of two ints -/
def SpKey (Good : Hp → V → Prop) (key : V → Int × Int) : Sp := fun vs H Q _ => ∃ x, vs = [x] ∧ Good H x ∧ ∀ H' t, Ex H H' → H' t = some (.tup [.int (key x).1, .int (key x).2]) → Q (.ref t) H'
noncomputable section
open Classical in
def kf (h : Heap) (v : Value) : Int × Int := if e : ∃ p : Int × Int, Srt.IsPair h v p.1 p.2 then e.choose else (0, 0)
theorem isPair_inj {h : Heap} {v : Value} {a b c d : Int} (p : Srt.IsPair h v a b) (q : Srt.IsPair h v c d) : a = c ∧ b = d := by
  obtain ⟨x, o, t, u, n, e, ho, hc, hd⟩ := p
  obtain ⟨x', o', t', u', n', e', ho', hc', hd'⟩ := q
  rw [e] at e'
  cases e'
  rw [ho] at ho'
  cases ho'
  rw [hd] at hd'
  injection hd' with hd'
  have z := congrArg Array.toList hd'
  simp at z
  exact ⟨z.1.1, z.2.1⟩
theorem kf_eq {h : Heap} {v : Value} {a b : Int} (p : Srt.IsPair h v a b) : kf h v = (a, b) := by
  have e : ∃ p : Int × Int, Srt.IsPair h v p.1 p.2 := ⟨(a, b), p⟩
  unfold kf
  rw [dif_pos e]
  obtain ⟨h1, h2⟩ := isPair_inj e.choose_spec p
  exact Prod.ext h1 h2
section
variable {X : Cx} {pins : List (Addr × Obj)} {σ : L2.St} {H : Hp} {k : Nat} {f : Addr} {fd : FuncData} {ps : List Str} {key : V → Int × Int} {Good : Hp → V → Prop}
/-- one key is asked for -/
theorem key_call (F : FnOk X.prog X.w X.K X.mg X.base CX0 k f fd ps (SpKey Good key)) (hb : Binds X.K fd ps []) {A : Around} (hA : Room k A) (hf : A.frames = X.A.frames) {s : Shared} {x : V} {v : Value} (I : Inv X pins σ H s) (rx : RelV x v) (hg : Good H x)
    {E : Value → Shared → Prop} {Q : Value → Shared → Prop}
    (h : ∀ u H' s', Inv X pins σ H' s' → Ex H H' → (∀ b o, s.heap.get? b = some o → FpOk X pins H b → s'.heap.get? b = some o ∧ H' b = none) → (∃ t, u = .ref t ∧ H' t = some (.tup [.int (key x).1, .int (key x).2])) → Q u s') :
    wpAny (model X.prog X.w) A (call (.ref f) [v]) Q E s := by
  have hsp : SpKey Good key [x] H (fun u H' => ∃ t, u = .ref t ∧ Ex H H' ∧ H' t = some (.tup [.int (key x).1, .int (key x).2])) (fun _ _ _ => False) := ⟨x, rfl, hg, fun H' t e ht => ⟨t, rfl, e, ht⟩⟩
  have e0 : Env0 X.prog X.w X.K X.mg X.base A X.stack s H := by
    have e := I.env0
    exact ⟨by rw [hf]; exact e.frames, e.mod, e.bs, e.bsz, e.funs, e.frf, e.hok, e.bare⟩
  have hl := F.len _ _ _ _ hsp
  refine wpAny_call (codeAny_mono (F.run A X.stack s H ⟨[v], []⟩ [v] [x] _ _ hA e0 (by
    have := hb s [v] I.kIn (by simpa using hl)
    simpa using this) (.cons rx .nil) hsp) fun r s' hq => ?_)
  cases r with
  | error e => exact hq.elim
  | ok fl =>
    cases fl with
    | ret u =>
      have hq' : CE X.stack X.prog X.w H s (fun u H' => ∃ t, u = .ref t ∧ Ex H H' ∧ H' t = some (.tup [.int (key x).1, .int (key x).2])) u s' := hq
      obtain ⟨v', H', hos, hbare, un, hok, rv, t, rfl, ex, ht⟩ := id hq'
      obtain ⟨v2, H2, I2, rv2, t2, rfl, ex2, ht2⟩ := I.after (Q := fun u H'' => ∃ t, u = .ref t ∧ Ex H H'' ∧ H'' t = some (.tup [.int (key x).1, .int (key x).2]) ∧ H'' = H') ⟨.ref t, H', hos, hbare, un, hok, rv, t, rfl, ex, ht, rfl⟩
      obtain ⟨ht2, rfl⟩ := ht2
      cases rv2
      refine h (.ref t2) H2 s' I2 ex2 (fun b o e fp => ?_) ⟨t2, rfl, ht2⟩
      have hb : b ∉ frs X.stack := fun z => by
        rcases List.mem_cons.mp (I.stkSub b z) with e1 | e1
        · exact fp.2.1 e1
        · exact fp.2.2.1 e1
      exact ⟨un.keep b o e fp.1 hb (fun z => nomatch z), un.free b o e fp.1 (fun z => nomatch z)⟩
    | next => exact False.elim hq
    | brk => exact False.elim hq
    | cont => exact False.elim hq
/-- while the keys are made -/
def KSt (X : Cx) (pins : List (Addr × Obj)) (σ : L2.St) (H0 : Hp) (key : V → Int × Int) (kS a : Addr) (e1 : Nat) (xs : List V) (ks : List Value) (s : Shared) : Prop :=
  ∃ H' c, Inv X pins σ H' s ∧ Ex H0 H' ∧ FpOk X pins H' kS ∧ FpOk X pins H' a ∧ s.heap.get? kS = some (seqObj "list" ks.toArray c) ∧ s.heap.get? a = some (seqObj "list" #[] e1) ∧ kS ≠ a ∧
    Paired (fun (x : V) (k : Value) => ∃ t, k = .ref t ∧ H' t = some (.tup [.int (key x).1, .int (key x).2])) xs ks
theorem fp_to {H H' : Hp} {b : Addr} (h : FpOk X pins H b) (e : H' b = none) : FpOk X pins H' b := ⟨e, h.2⟩
theorem key_fold (F : FnOk X.prog X.w X.K X.mg X.base CX0 k f fd ps (SpKey Good key)) (hb : Binds X.K fd ps []) {A : Around} (hA : Room k A) (hf : A.frames = X.A.frames) {H0 : Hp} {kS a : Addr} {e1 : Nat} {E : Value → Shared → Prop}
    (mg : ∀ x H H', Ex H H' → Good H x → Good H' x) {body : Value → PUnit → Sem (ForInStep PUnit)}
    (hbody : ∀ (v : Value) (s : Shared) (kv : Value → Shared → Prop), wpAny (model X.prog X.w) A (call (.ref f) [v]) (fun u s' => ∃ ks c, s'.heap.get? kS = some (seqObj "list" ks c) ∧ ks.size < sizeLine ∧ kv u { s' with heap := s'.heap.update kS (Obj.mapSeq (·.push u)) }) (fun _ _ => False) s →
      wpAny (model X.prog X.w) A (body v ⟨⟩) (fun r s' => r = .yield ⟨⟩ ∧ ∃ u, kv u s') E s) :
    ∀ (r : List Value) (zs : List V) (xs : List V) (ks : List Value) (s : Shared), xs.length + zs.length ≤ sizeLine → Vals zs r → (∀ z ∈ zs, Good H0 z) → KSt X pins σ H0 key kS a e1 xs ks s →
      wpAny (model X.prog X.w) A (forIn r PUnit.unit body) (fun _ s' => ∃ ks', KSt X pins σ H0 key kS a e1 (xs ++ zs) ks' s') E s
  | [], zs, xs, ks, s, _, rv, _, h => by
    cases rv
    rw [List.forIn_nil, List.append_nil]
    exact wpAny_pure ⟨ks, h⟩
  | v :: r, z :: zs, xs, ks, s, hl, rv, hg, h => by
    cases rv with
    | cons rz rv =>
    rw [List.length_cons] at hl
    rw [List.forIn_cons]
    obtain ⟨H', c, I, ex, fk, fa, ek, ea, hne, hp⟩ := h
    have hks : ks.length = xs.length := (paired_len hp).symm
    refine wpAny_bind (wpAny_mono (hbody v s (fun u s' => KSt X pins σ H0 key kS a e1 (xs ++ [z]) (ks ++ [u]) s') ?_) (fun q s' hq => ?_) fun _ _ x => x)
    · refine key_call F hb hA hf I rz (mg z _ _ ex (hg z (List.mem_cons_self ..))) fun u H2 s2 I2 ex2 kp hu => ?_
      obtain ⟨ek2, nk2⟩ := kp kS _ ek fk
      obtain ⟨ea2, na2⟩ := kp a _ ea fa
      refine ⟨ks.toArray, c, ek2, by rw [List.size_toArray, hks]; omega, H2, _, ?_, ex.trans ex2, fp_to fk nk2, fp_to fa na2, by
        have eq : ks.toArray.push u = (ks ++ [u]).toArray := by simp
        rw [← eq]; exact get?_update_seq ek2 (·.push u), (Heap.get?_update_ne _ _ _ _ hne.symm).trans ea2, hne, ?_⟩
      · obtain ⟨g0, g1, g2, g3, g4, g5⟩ := fp_to fk nk2
        exact I2.turned (t' := s2.toks) (fun b o hb e => (Heap.get?_update_ne _ _ _ _ hb).trans e) g0 g1 g3 g4 g5
      · refine paired_snoc hu (paired_imp (fun x k ⟨t, e, ht⟩ => ⟨t, e, ex2 _ _ ht⟩) hp)
    · obtain ⟨rfl, u, h2⟩ := hq
      show wpAny (model X.prog X.w) A (forIn r PUnit.unit body) _ E s'
      have h3 := key_fold F hb hA hf mg hbody r zs (xs ++ [z]) (ks ++ [u]) s' (by rw [List.length_append]; simp only [List.length_cons, List.length_nil]; omega) rv (fun y hy => hg y (List.mem_cons_of_mem _ hy)) h2
      rw [List.append_assoc] at h3
      exact h3
theorem pair_of {H : Hp} {s : Shared} {kk : Value} {x : V} (I : Inv X pins σ H s) (h : ∃ t, kk = .ref t ∧ H t = some (.tup [.int (key x).1, .int (key x).2])) : Srt.IsPair s.heap kk (key x).1 (key x).2 := by
  obtain ⟨t, rfl, ht⟩ := h
  obtain ⟨_, its, rv, o, h1, h2, n, h3⟩ := (show ObjOk X.prog X.w H s.heap t (.tup _) from I.hok t _ ht)
  cases rv with
  | cons ra rb =>
    cases rb with
    | cons rb rc =>
      cases rc
      obtain ⟨t1, rfl⟩ := ra
      obtain ⟨t2, rfl⟩ := rb
      exact ⟨t, o, t1, t2, n, rfl, h1, h2, h3⟩
/-- lists of values in an order by the key -/
def KOrd (key : V → Int × Int) (ys : List V) : Prop := ys.Pairwise fun x y => SrtO.lexB (key y) (key x) = false
theorem key_out {xs : List V} {vs ks : List Value} {arr : List Keyed} {g : Value → Int × Int} (rv : Vals xs vs) (hk : Paired (fun (x : V) (u : Value) => g u = key x) xs ks) (hs : arr.Pairwise fun p q => SrtO.lexB (g q.1) (g p.1) = false) (hp : arr.Perm (ks.zip vs)) :
    ∃ ys, ys.Perm xs ∧ KOrd key ys ∧ Vals ys (arr.map (·.2)) := by
  have l1 : xs.length = vs.length := rv.length
  have l2 : xs.length = ks.length := paired_len hk
  have lz : (ks.zip vs).length = xs.length := by rw [List.length_zip, ← l1, ← l2, Nat.min_self]
  have m2 : (xs.zip (ks.zip vs)).map Prod.snd = ks.zip vs := List.map_snd_zip (by rw [lz]; exact Nat.le_refl _)
  have m1 : (xs.zip (ks.zip vs)).map Prod.fst = xs := List.map_fst_zip (by rw [lz]; exact Nat.le_refl _)
  obtain ⟨zs, p, q⟩ := perm_lift Prod.snd hp _ m2
  have all : ∀ z ∈ zs, RelV z.1 z.2.2 ∧ g z.2.1 = key z.1 := by
    intro z hz
    obtain ⟨j, hj⟩ := List.mem_iff_getElem?.mp (p.mem_iff.mp hz)
    obtain ⟨h1, h2⟩ := List.getElem?_zip_eq_some.mp hj
    obtain ⟨h3, h4⟩ := List.getElem?_zip_eq_some.mp h2
    obtain ⟨u, h5, h6⟩ := rv.get h1
    obtain ⟨u2, h7, h8⟩ := paired_get hk h1
    rw [h4] at h5
    rw [h3] at h7
    cases h5
    cases h7
    exact ⟨h6, h8⟩
  refine ⟨zs.map Prod.fst, ?_, ?_, ?_⟩
  · have e := p.map Prod.fst
    rw [m1] at e
    exact e
  · rw [← q] at hs
    have hs' := List.pairwise_map.mp hs
    unfold KOrd
    rw [List.pairwise_map]
    refine hs'.imp_of_mem fun {a b} ha hb' h => ?_
    rw [← (all a ha).2, ← (all b hb').2]
    exact h
  · rw [← q, List.map_map]
    clear hs q p m1 m2 lz
    induction zs with
    | nil => exact .nil
    | cons z zs ih =>
      exact .cons (all z (List.mem_cons_self ..)).1 (ih fun y hy => all y (List.mem_cons_of_mem _ hy))
theorem key_tail {A : Around} {H0 : Hp} {kS a : Addr} {e1 : Nat} {xs : List V} {ks : List Value} {s : Shared} {E : Value → Shared → Prop} {P : PySem.Fin → Shared → Prop} {st : SortSt} {ys : List V} {out : List Value} (h : KSt X pins σ H0 key kS a e1 xs ks s)
    (hz : xs.length ≤ sizeLine) (hp : ys.Perm xs) (ry : Vals ys out) (hout : ((arrOf st).map (·.2)).toList = out) (hfail : failedOf st = none)
    (hP : ∀ H' s', Inv X pins σ H' s' → Ex H0 H' → H' a = some (.lst ys) → P (.done (.ret .none)) s') : wpAny (model X.prog X.w) A (ksk_tail a false e1 (.ref kS) st) P E s := by
  obtain ⟨H', c, I, ex, fk, fa, ek, ea, hne, pp⟩ := h
  have hks : ks.length = xs.length := (paired_len pp).symm
  have s1 := Heap.SameBut.update s.heap kS (Obj.mapSeq fun _ => (#[] : Array Value))
  have ea1 : (s.heap.update kS (Obj.mapSeq fun _ => (#[] : Array Value))).get? a = some (seqObj "list" #[] e1) := (Heap.get?_update_ne _ _ _ _ hne.symm).trans ea
  have hl : out.length = xs.length := by rw [← ry.length, hp.length_eq]
  have hsz : ((arrOf st).map (·.2)).size = xs.length := by rw [← Array.length_toList, hout, hl]
  unfold ksk_tail
  try dsimp only
  refine wpAny_bind (listUpdate_at ek rfl ?_ (by rw [List.size_toArray, hks]; exact hz) (Nat.zero_le _))
  refine wpAny_bind (wpAny_letGo ?_)
  refine wpAny_bind (seqEpoch_at ea1 rfl ?_)
  refine wpAny_bind (listUpdate_at ea1 rfl ?_ (Nat.zero_le _) (by
    show ((if false = true then ((arrOf st).map (·.2)).reverse else (arrOf st).map (·.2))).size ≤ _
    rw [if_neg Bool.false_ne_true, hsz]; omega))
  rw [hfail]
  simp only [bne_self_eq_false, Bool.false_eq_true, if_false]
  have I1 : Inv X pins σ H' { s with heap := s.heap.update kS (Obj.mapSeq fun _ => (#[] : Array Value)) } := by
    obtain ⟨g0, g1, g2, g3, g4, g5⟩ := fk
    exact I.turned (t' := s.toks) (fun b o hb e => (Heap.get?_update_ne _ _ _ _ hb).trans e) g0 g1 g3 g4 g5
  obtain ⟨c2, hc2⟩ : ∃ c2, ((s.heap.update kS (Obj.mapSeq fun _ => (#[] : Array Value))).update a (Obj.mapSeq fun _ => (arrOf st).map (·.2))).get? a = some (seqObj "list" ((arrOf st).map (·.2)) c2) := ⟨_, get?_update_seq ea1 fun _ => (arrOf st).map (·.2)⟩
  refine wpAny_pure (hP (upd H' a (.lst ys)) _ (I1.take (t' := s.toks) (it := a) (fun b o hb e => (Heap.get?_update_ne _ _ _ _ hb).trans e) fa ⟨by rw [hp.length_eq]; exact hz, out, c2, ry, ?_⟩) (ex.trans (Ex.new fa.1)) upd_same)
  rw [hc2, ← hout, Array.toArray_toList]
theorem key_end {A : Around} {H0 : Hp} {kS a : Addr} {e1 : Nat} {xs : List V} {ks vs : List Value} {s : Shared} {E : Value → Shared → Prop} {P : PySem.Fin → Shared → Prop} (h : KSt X pins σ H0 key kS a e1 xs ks s) (rv : Vals xs vs) (hz : xs.length ≤ sizeLine)
    (hP : ∀ ys H' s', ys.Perm xs → KOrd key ys → Inv X pins σ H' s' → Ex H0 H' → H' a = some (.lst ys) → P (.done (.ret .none)) s') : wpAny (model X.prog X.w) A (ksk_end a false vs.toArray e1 (.ref kS) ks.toArray) P E s := by
  obtain ⟨H', c, I, ex, fk, fa, ek, ea, hne, pp⟩ := id h
  have l1 : xs.length = vs.length := rv.length
  have l2 : xs.length = ks.length := paired_len pp
  have hpair : ∀ u ∈ ks, Srt.IsPair s.heap u (kf s.heap u).1 (kf s.heap u).2 := fun u hu => by
    obtain ⟨j, hj⟩ := List.mem_iff_getElem?.mp hu
    obtain ⟨x, _, hx⟩ := paired_get' pp hj
    have ip := pair_of I hx
    rw [kf_eq ip]
    exact ip
  have hgk : Paired (fun (x : V) (u : Value) => kf s.heap u = key x) xs ks := paired_imp (fun x u hx => kf_eq (pair_of I hx)) pp
  have fin : ∀ st : SortSt, (arrOf st).toList.Pairwise (fun p q => SrtO.lexB (kf s.heap q.1) (kf s.heap p.1) = false) → (arrOf st).toList.Perm (ks.zip vs) → failedOf st = none → wpAny (model X.prog X.w) A (ksk_tail a false e1 (.ref kS) st) P E s := by
    intro st h1 h2 h3
    obtain ⟨ys, hp, ho, ry⟩ := key_out rv hgk h1 h2
    exact key_tail h hz hp ry (by rw [Array.toList_map]) h3 fun H2 s2 I2 e2 a2 => hP ys H2 s2 hp ho I2 e2 a2
  have ez : (ks.toArray.zip vs.toArray).toList = ks.zip vs := ksk_zip _ _
  unfold ksk_end
  try dsimp only
  simp only [Bool.false_eq_true, if_false]
  by_cases h2 : vs.toArray.size < 2
  · rw [if_pos h2, if_pos h2]
    refine wpAny_bind (wpAny_pure ?_)
    rw [StateT.run_pure]
    refine wpAny_bind (wpAny_pure ?_)
    try dsimp only
    refine fin (SortSt.mk' general' (ks.toArray.zip vs.toArray) #[] 7 none) ?_ (by show (ks.toArray.zip vs.toArray).toList.Perm _; rw [ez]) rfl
    show ((ks.toArray.zip vs.toArray).toList).Pairwise _
    rw [ez]
    rw [List.size_toArray] at h2
    match ks, vs, h2 with
    | [], _, _ => exact .nil
    | _ :: _, [], _ => simp
    | _ :: _, [_], _ => rw [List.zip_cons_cons, List.zip_nil_right]; exact List.pairwise_singleton _ _
    | _ :: _, _ :: _ :: l, h => exact absurd h (by rw [List.length_cons, List.length_cons]; omega)
  · rw [if_neg h2, if_neg h2]
    have hlen : 2 ≤ ks.length := by rw [← l2, l1]; rw [List.size_toArray] at h2; omega
    obtain ⟨fs, q1, q2, q3⟩ := Srt.firsts_of (h := s.heap) (vs := ks) fun v hm => ⟨_, _, hpair v hm⟩
    refine wpAny_bind (PySem.W.kat_kind (T := .type "int") q1 (by omega) (fun f hm => ?_) (by rfl) ?_)
    · obtain ⟨x, t, rfl⟩ := q3 f hm
      exact PySem.W.Looks.now
    · have e : (Value.type "int" != Value.type "tuple") = true := by first | decide +kernel | rfl | decide
      rw [e]
      refine wpAny_bind (wpAny_mono (SrtO.wpS_sortO (st0 := SortSt.mk' (tuples' true) (ks.toArray.zip vs.toArray) #[] 7 none) (lt := SrtO.lt2 fun v u => SrtO.lexB (kf s.heap v) (kf s.heap u)) (P := fun p => p.1 ∈ ks)
        (Q := fun _ st' => SrtO.Srtd (SrtO.lt2 fun v u => SrtO.lexB (kf s.heap v) (kf s.heap u)) (arrOf st').toList ∧ (arrOf st').toList.Perm (ks.zip vs) ∧ failedOf st' = none) (SrtO.swo2 (SrtO.swo_lex (kf s.heap))) (SrtO.pair_cmp hpair) rfl (fun p hm => ?_) rfl rfl fun st' a1 a2 a3 => ⟨a1, ?_, a3⟩) ?_ fun _ _ e => e)
      · have hm' : p ∈ (ks.toArray.zip vs.toArray).toList := hm
        rw [ez] at hm'
        exact (List.of_mem_zip (a := p.1) (b := p.2) hm').1
      · have hp := a2.perm
        rw [show (arrOf (SortSt.mk' (tuples' true) (ks.toArray.zip vs.toArray) #[] 7 none)).toList = ks.zip vs from ez] at hp
        exact hp
      · rintro ⟨⟨⟩, st'⟩ s' ⟨rfl, hp1, hp2, hf⟩
        try dsimp only
        exact fin st' hp1 hp2 hf
end
end
end G

/-! ## GSort2 -/
set_option Elab.async false
set_option linter.all false
set_option maxRecDepth 100000
set_option maxHeartbeats 4000000
namespace G
open PySem PySem.W PySem.Calls PyProof.Rows PySem.Spec L2
section
variable {X : Cx} {pins : List (Addr × Obj)} {σ : L2.St} {H : Hp} {k : Nat} {f : Addr} {fd : FuncData} {ps : List Str} {key : V → Int × Int} {Good : Hp → V → Prop}
theorem key_rest (F : FnOk X.prog X.w X.K X.mg X.base CX0 k f fd ps (SpKey Good key)) (hb : Binds X.K fd ps []) {A : Around} (hA : Room k A) (hf : A.frames = X.A.frames) {H0 : Hp} {kS a : Addr} {e1 : Nat} {xs : List V} {vs : List Value} {s : Shared} {E : Value → Shared → Prop} {P : PySem.Fin → Shared → Prop}
    (mg : ∀ x H H', Ex H H' → Good H x → Good H' x) (h : KSt X pins σ H0 key kS a e1 [] [] s) (rv : Vals xs vs) (hz : xs.length ≤ sizeLine) (hg : ∀ x ∈ xs, Good H0 x)
    (hP : ∀ ys H' s', ys.Perm xs → KOrd key ys → Inv X pins σ H' s' → Ex H0 H' → H' a = some (.lst ys) → P (.done (.ret .none)) s') : wpAny (model X.prog X.w) A (ksk_rest a (.ref f) false vs.toArray e1 (.ref kS)) P E s := by
  unfold ksk_rest
  refine wpAny_bind (wpAny_rule ?_)
  rw [List.forIn_toArray]
  refine wpAny_bind (wpAny_mono (key_fold F hb hA hf mg (fun v s' kv hx => ?_) vs xs [] [] s (by simpa using hz) rv hg h) (fun _ s' hd => ?_) fun _ _ x => x)
  · refine wpAny_bind (wpAny_attempt (wpAny_mono hx (fun u s'' hk => ?_) fun _ _ hF => hF.elim))
    obtain ⟨ks, c, ek, hlt, hkv⟩ := hk
    try dsimp only
    refine wpAny_bind (listUpdate_at ek rfl ?_ (Nat.le_of_lt hlt) (by rw [Array.size_push]; omega))
    exact wpAny_pure ⟨rfl, u, hkv⟩
  · obtain ⟨ks, hd⟩ := hd
    rw [List.nil_append] at hd
    obtain ⟨H', c, I, ex, fk, fa, ek, ea, hne, pp⟩ := id hd
    try dsimp only
    refine wpAny_bind (listItems_at ek rfl ?_)
    exact key_end hd rv hz hP
theorem key_sort (F : FnOk X.prog X.w X.K X.mg X.base CX0 k f fd ps (SpKey Good key)) (hb : Binds X.K fd ps []) {A : Around} (hA : Room k A) (hf : A.frames = X.A.frames) {a : Addr} {n : Nat} {xs : List V} {vs : List Value} {s : Shared} {E : Value → Shared → Prop} {P : PySem.Fin → Shared → Prop}
    (mg : ∀ x H H', Ex H H' → Good H x → Good H' x) (I : Inv X pins σ H s) (ho : s.heap.get? a = some (seqObj "list" vs.toArray n)) (fa : FpOk X pins H a) (rv : Vals xs vs) (hz : xs.length ≤ sizeLine) (hg : ∀ x ∈ xs, Good H x)
    (hP : ∀ ys H' s', ys.Perm xs → KOrd key ys → Inv X pins σ H' s' → Ex H H' → H' a = some (.lst ys) → P (.done (.ret .none)) s') : wpAny (model X.prog X.w) A (ksk_tree a (.ref f) false) P E s := by
  have hzv : vs.toArray.size ≤ sizeLine := by rw [List.size_toArray, ← rv.length]; exact hz
  obtain ⟨e1, ho1⟩ : ∃ e1, (s.heap.update a (Obj.mapSeq fun _ => (#[] : Array Value))).get? a = some (seqObj "list" #[] e1) := ⟨_, get?_update_seq ho fun _ => #[]⟩
  have I1 : Inv X pins σ H { s with heap := s.heap.update a (Obj.mapSeq fun _ => (#[] : Array Value)) } := by
    obtain ⟨g0, g1, g2, g3, g4, g5⟩ := fa
    exact I.turned (t' := s.toks) (fun b o hb e => (Heap.get?_update_ne _ _ _ _ hb).trans e) g0 g1 g3 g4 g5
  unfold ksk_tree
  refine wpAny_bind (listItems_at ho rfl ?_)
  refine wpAny_bind (listUpdate_at ho rfl ?_ hzv (Nat.zero_le _))
  refine wpAny_bind (seqEpoch_at ho1 rfl ?_)
  refine wpAny_bind (wpAny_newTuple ?_ (by show vs.length ≤ _; rw [← rv.length]; exact hz))
  refine wpAny_bind (wpAny_newList ?_ (Nat.zero_le _))
  refine wpAny_holding ?_
  have I2 : Inv X pins σ H { s with heap := (s.heap.update a (Obj.mapSeq fun _ => (#[] : Array Value))).push (seqObj "tuple" vs.toArray 0) } := I1.kept (t' := s.toks) fun b o e => Heap.get?_push_of_some _ e
  have I3 : Inv X pins σ H { s with heap := ((s.heap.update a (Obj.mapSeq fun _ => (#[] : Array Value))).push (seqObj "tuple" vs.toArray 0)).push (seqObj "list" #[] 0) } := I2.kept (t' := s.toks) fun b o e => Heap.get?_push_of_some _ e
  have hkf : H ((s.heap.update a (Obj.mapSeq fun _ => (#[] : Array Value))).push (seqObj "tuple" vs.toArray 0)).objs.size = none := I2.hok.fresh (Nat.le_refl _)
  have hne : ((s.heap.update a (Obj.mapSeq fun _ => (#[] : Array Value))).push (seqObj "tuple" vs.toArray 0)).objs.size ≠ a := by
    rw [size_push', Heap.size_update]
    exact Nat.ne_of_gt (Nat.lt_succ_of_lt (Heap.lt_size ho))
  refine key_rest F hb hA hf mg ⟨H, 0, I3, Ex.refl H, I2.fpOk (Nat.le_refl _) hkf, fa, Heap.get?_push_size _ rfl, Heap.get?_push_of_some _ (Heap.get?_push_of_some _ ho1), hne, .nil⟩ rv hz hg hP
/-- sorted(xs, key = f), f's answers pairs of ints -/
def rSortK (K : PySem.W.Frag) (f : Addr) (Good : Hp → V → Prop) (key : V → Int × Int) : List V → List V → Hp → VK → Prop := fun vs zs H Q => ∃ (a : Addr) (xs : List V), vs = [.ref a] ∧ zs = [.ref f] ∧ SqL K H a xs ∧ (∀ x ∈ xs, Good H x) ∧
  ∀ (ys : List V) (H' : Hp) (p : Addr), ys.Perm xs → KOrd key ys → Ex H H' → H p = none → H' p = some (.lst ys) → Q (.ref p) H'
theorem cr_sortK (F : FnOk X.prog X.w X.K X.mg X.base CX0 k f fd ps (SpKey Good key)) (hb : Binds X.K fd ps []) (hr : Room (k + 2) X.A) (mg : ∀ x H H', Ex H H' → Good H x → Good H' x) : CallRK X (.builtin "sorted") [Str.ofString "key"] (rSortK X.K f Good key) := by
  intro pins s σ H vs zs us ws Q I r rz h
  obtain ⟨l, xs, rfl, rfl, hs, hg, q⟩ := h
  obtain rfl := Vals.ref1 r
  obtain ⟨w1, rfl, e1⟩ := vals1 rz
  obtain rfl : w1 = Value.ref f := e1
  obtain ⟨its, rv, hl, hz⟩ := I.list hs
  refine call_function_entry_kw kind_sorted plain_sorted entry_sorted (PyProof.Rows.ksk_s1 _ _) ?_
  unfold Builtin.«sorted»
  have hzi : its.length ≤ sizeLine := by rw [← rv.length]; exact hz
  refine wpAny_bind (m := checkCount "sorted" 1 1 _) (wpAny_pure ?_)
  refine wpAny_bind (collect_list hl.isList ?_ hzi)
  refine wpAny_bind (wpAny_newList ?_ hzi)
  have hsz : ((s.heap.push (seqObj "list" #[] 0)).update s.heap.objs.size (Obj.mapSeq (· ++ its.toArray))).objs.size = s.heap.objs.size + 1 := by
    rw [Heap.size_update, size_push']
  have hoL : (((s.heap.push (seqObj "list" #[] 0)).update s.heap.objs.size (Obj.mapSeq (· ++ its.toArray))).push (seqObj "list" its.toArray 0)).get? (s.heap.objs.size + 1) = some (seqObj "list" its.toArray 0) := by
    rw [← hsz]; exact Heap.get?_push_size _ rfl
  have keep : ∀ b o, s.heap.get? b = some o → (((s.heap.push (seqObj "list" #[] 0)).update s.heap.objs.size (Obj.mapSeq (· ++ its.toArray))).push (seqObj "list" its.toArray 0)).get? b = some o := fun b o q => by
    have hlt : b < s.heap.objs.size := Heap.lt_size q
    refine Heap.get?_push_of_some _ ?_
    rw [Heap.get?_update_ne _ _ _ _ (Nat.ne_of_lt hlt)]
    exact Heap.get?_push_of_some _ q
  show wpAny _ _ _ _ _ { s with heap := ((s.heap.push (seqObj "list" #[] 0)).update s.heap.objs.size (Obj.mapSeq (· ++ its.toArray))).push (seqObj "list" its.toArray 0) }
  rw [hsz]
  have I1 : Inv X pins σ H { s with heap := ((s.heap.push (seqObj "list" #[] 0)).update s.heap.objs.size (Obj.mapSeq (· ++ its.toArray))).push (seqObj "list" its.toArray 0) } := I.kept (t' := s.toks) keep
  have hpn : H (s.heap.objs.size + 1) = none := I.hok.fresh (Nat.le_succ _)
  refine wpAny_bind (wpAny_holding (wpAny_call_entry_kw PyProof.Rows.slot_list_sort ⟨_, hoL, rfl⟩ PyProof.Rows.entry_list_sort ?_ (PyProof.Rows.ksk_l1 _ _)))
  show wpAny (model X.prog X.w) X.A.in1.in1 (Builtin.«list.sort» ⟨[.ref (s.heap.objs.size + 1)], [(Str.ofString "key", .ref f)]⟩) _ _ _
  rw [PyProof.Rows.ksk_t1]
  have hr1 : Room (k + 1) X.A.in1 := Room.in1 hr
  have hr2 : Room k X.A.in1.in1 := Room.in1 hr1
  refine key_sort F hb hr2 rfl mg I1 hoL (I.fpOk (Nat.le_succ _) hpn) rv hz hg fun ys H' s' hp ho I' e' a' => ⟨_, rfl, ?_⟩
  exact wpAny_pure ⟨_, rfl, .ref _, H', I', rfl, q ys H' _ hp ho e' hpn a'⟩
end
end G

/-! ## GArea -/
set_option Elab.async false
set_option linter.all false
set_option maxRecDepth 100000
namespace G
open PySem PySem.Spec PyProof.Rows L2
/-! ### blocks, areas: what they are -/
structure Blk where
  t : Int
  l : Int
  b : Option Int
  r : Option Int
  deriving DecidableEq
def blkF (x : Blk) : List (Str × V) := putF "right" (optV x.r) (putF "bottom" (optV x.b) (putF "left" (.int x.l) (putF "top" (.int x.t) [])))
theorem blkF_top (x : Blk) : (blkF x).lookup ("top" : Str) = some (.int x.t) := by
  unfold blkF
  rw [lookup_putF, if_neg (by decide +kernel), lookup_putF, if_neg (by decide +kernel), lookup_putF, if_neg (by decide +kernel), lookup_putF, if_pos rfl]
theorem blkF_left (x : Blk) : (blkF x).lookup ("left" : Str) = some (.int x.l) := by
  unfold blkF
  rw [lookup_putF, if_neg (by decide +kernel), lookup_putF, if_neg (by decide +kernel), lookup_putF, if_pos rfl]
theorem blkF_bottom (x : Blk) : (blkF x).lookup ("bottom" : Str) = some (optV x.b) := by
  unfold blkF
  rw [lookup_putF, if_neg (by decide +kernel), lookup_putF, if_pos rfl]
theorem blkF_right (x : Blk) : (blkF x).lookup ("right" : Str) = some (optV x.r) := by
  unfold blkF
  rw [lookup_putF, if_pos rfl]
theorem blkF_no (x : Blk) {m : Str} (h1 : ¬ m = "right") (h2 : ¬ m = "bottom") (h3 : ¬ m = "left") (h4 : ¬ m = "top") : (blkF x).lookup m = none := by
  unfold blkF
  rw [lookup_putF, if_neg h1, lookup_putF, if_neg h2, lookup_putF, if_neg h3, lookup_putF, if_neg h4]
  rfl
def IsBlk (K : PySem.W.Frag) : Rp Blk := fun G v x => ∃ p dx, v = .ref p ∧ G p = some (.ins (He.ga K "Block") dx (blkF x))
theorem IsBlk.mono {K : PySem.W.Frag} : Mono (IsBlk K) := fun _ _ _ _ e ⟨p, dx, h1, h2⟩ => ⟨p, dx, h1, e _ _ h2⟩
def arF (q : Addr) : List (Str × V) := putF "form" (.ref q) []
theorem arF_form (q : Addr) : (arF q).lookup ("form" : Str) = some (.ref q) := by unfold arF; rw [lookup_putF, if_pos rfl]
theorem arF_no (q : Addr) {m : Str} (h : ¬ m = "form") : (arF q).lookup m = none := by unfold arF; rw [lookup_putF, if_neg h]; rfl
/-- an area: the list of its form's blocks -/
def IsAr (K : PySem.W.Frag) : Rp (List Blk) := fun G v xs => ∃ p dx q, v = .ref p ∧ G p = some (.ins (He.ga K "Area") dx (arF q)) ∧ IsL (IsBlk K) G (.ref q) xs
theorem IsAr.mono {K : PySem.W.Frag} : Mono (IsAr K) := fun G G' _ _ e ⟨p, dx, q, h1, h2, h3⟩ => ⟨p, dx, q, h1, e _ _ h2, IsL.mono IsBlk.mono G G' _ _ e h3⟩
abbrev IsRn : Rp Rn := IsT2 IsI IsO
theorem IsRn.mono : Mono IsRn := IsT2.mono IsI.mono IsO.mono
/-! ### mirrors -/
def isAt (a : Int) (l : Option Int) (n : Int) : Bool := decide (a ≤ n) && (match l with | none => true | some l => decide (n ≤ l))
/-- sorted, none twice -/
def ins (x : Int) : List Int → List Int
  | [] => [x]
  | y :: r => if x < y then x :: y :: r else if x = y then y :: r else y :: ins x r
def sd (xs : List Int) : List Int := xs.foldr ins []
def strOf : List Int → List Rn
  | [] => []
  | [a] => [(a, none)]
  | a :: b :: r => (a, some (b - 1)) :: strOf (b :: r)
def stretches (xs : List Int) : List Rn := strOf (sd xs)
def cutsOf (es : List Rn) : List Int := es.map (·.1) ++ es.filterMap fun e => e.2.map (· + 1)
def withRun (rs : List Rn) (f : Int) (l : Option Int) : List Rn := match rs.getLast? with
  | some (a, some b) => if b = f - 1 then rs.dropLast ++ [(a, l)] else rs ++ [(f, l)]
  | _ => rs ++ [(f, l)]
def runStep (one other : List Rn) (k : Bool → Bool → Bool) (acc : List Rn) (s : Rn) : List Rn :=
  if k (one.any fun r => isAt r.1 r.2 s.1) (other.any fun r => isAt r.1 r.2 s.1) = true then withRun acc s.1 s.2 else acc
def runsBy (one other : List Rn) (k : Bool → Bool → Bool) : List Rn := (stretches (cutsOf (one ++ other))).foldl (runStep one other k) []
def columnsAt (bs : List Blk) (row : Int) : List Rn := (bs.filter fun b => isAt b.t b.b row).map fun b => (b.l, b.r)
abbrev Band := Int × Option Int × List Rn
def bandStep (one other : List Blk) (k : Bool → Bool → Bool) (acc : List Band) (s : Rn) : List Band :=
  if runsBy (columnsAt one s.1) (columnsAt other s.1) k = [] then acc else acc ++ [(s.1, s.2, runsBy (columnsAt one s.1) (columnsAt other s.1) k)]
def bandsBy (one other : List Blk) (k : Bool → Bool → Bool) : List Band := (stretches (cutsOf ((one ++ other).map fun b => (b.t, b.b)))).foldl (bandStep one other k) []
/-! ### sorted lists of ints -/
theorem ins_mem (x y : Int) : ∀ l : List Int, y ∈ ins x l ↔ y = x ∨ y ∈ l
  | [] => by simp [ins]
  | z :: r => by
    unfold ins
    split
    · simp
    · split
      · rename_i h; subst h; simp
      · have := ins_mem x y r
        simp only [List.mem_cons, this]
        constructor
        · rintro (h | h | h)
          · exact .inr (.inl h)
          · exact .inl h
          · exact .inr (.inr h)
        · rintro (h | h | h)
          · exact .inr (.inl h)
          · exact .inl h
          · exact .inr (.inr h)
theorem ins_lt (x : Int) : ∀ l : List Int, l.Pairwise (· < ·) → (ins x l).Pairwise (· < ·)
  | [], _ => by simp [ins]
  | z :: r, h => by
    have h' := List.pairwise_cons.mp h
    unfold ins
    split
    · rename_i c
      refine List.pairwise_cons.mpr ⟨fun y hy => ?_, h⟩
      rcases List.mem_cons.mp hy with e | e
      · rw [e]; exact c
      · exact Int.lt_trans c (h'.1 y e)
    · split
      · exact h
      · rename_i c1 c2
        refine List.pairwise_cons.mpr ⟨fun y hy => ?_, ins_lt x r h'.2⟩
        rcases (ins_mem x y r).mp hy with e | e
        · rw [e]; omega
        · exact h'.1 y e
theorem sd_lt : ∀ xs : List Int, (sd xs).Pairwise (· < ·)
  | [] => List.Pairwise.nil
  | x :: r => ins_lt x _ (sd_lt r)
theorem sd_mem (y : Int) : ∀ xs : List Int, y ∈ sd xs ↔ y ∈ xs
  | [] => by simp [sd]
  | x :: r => by
    show y ∈ ins x (sd r) ↔ _
    rw [ins_mem, sd_mem y r, List.mem_cons]
theorem sorted_unique : ∀ {a b : List Int}, a.Pairwise (· < ·) → b.Pairwise (· < ·) → (∀ x, x ∈ a ↔ x ∈ b) → a = b
  | [], [], _, _, _ => rfl
  | [], y :: b, _, _, h => absurd ((h y).mpr (List.mem_cons_self ..)) (by simp)
  | x :: a, [], _, _, h => absurd ((h x).mp (List.mem_cons_self ..)) (by simp)
  | x :: a, y :: b, ha, hb, h => by
    have ha' := List.pairwise_cons.mp ha
    have hb' := List.pairwise_cons.mp hb
    have e : x = y := by
      rcases List.mem_cons.mp ((h x).mp (List.mem_cons_self ..)) with e | e
      · exact e
      · rcases List.mem_cons.mp ((h y).mpr (List.mem_cons_self ..)) with f | f
        · exact f.symm
        · exact absurd (Int.lt_trans (hb'.1 x e) (ha'.1 y f)) (Int.lt_irrefl _)
    subst e
    rw [sorted_unique ha'.2 hb'.2 fun z => ⟨fun hz => ?_, fun hz => ?_⟩]
    · rcases List.mem_cons.mp ((h z).mp (List.mem_cons_of_mem _ hz)) with e | e
      · subst e; exact absurd (ha'.1 z hz) (Int.lt_irrefl _)
      · exact e
    · rcases List.mem_cons.mp ((h z).mpr (List.mem_cons_of_mem _ hz)) with e | e
      · subst e; exact absurd (hb'.1 z hz) (Int.lt_irrefl _)
      · exact e
theorem sd_eq {xs ns : List Int} (h : ns.Pairwise (· < ·)) (m : ∀ x, x ∈ ns ↔ x ∈ xs) : ns = sd xs := sorted_unique h (sd_lt xs) fun x => (m x).trans (sd_mem x xs).symm
theorem strOf_len : ∀ l : List Int, (strOf l).length = l.length
  | [] => rfl
  | [_] => rfl
  | a :: b :: r => by show (strOf (b :: r)).length + 1 = _; rw [strOf_len (b :: r)]; rfl
theorem strOf_at : ∀ (l : List Int) (i : Nat) (a : Int), l[i]? = some a → (strOf l)[i]? = some (a, (l[i + 1]?).map (· - 1))
  | [a], 0, _, h => by cases h; rfl
  | [a], i + 1, _, h => by simp at h
  | a :: b :: r, 0, _, h => by cases h; rfl
  | a :: b :: r, i + 1, x, h => by
    show (strOf (b :: r))[i]? = _
    exact strOf_at (b :: r) i x (by simpa using h)
end G

/-! ## GFor -/
set_option Elab.async false
set_option linter.all false
set_option maxRecDepth 100000
namespace G
open PySem PySem.Spec PyProof.Rows L2
/-! ### loops -/
def ForGo (J : It) (g : TG) (tb : TS) (D : Ends) (σ : L2.St) (H : Hp) : Prop := ∃ W : Nat → Nat → L2.St → Hp → Prop, (∃ m, W 0 m σ H) ∧ ∀ i m σ H, W i m σ H →
  (J.stop i H ∧ D.nx σ H) ∨ (J.go i H ∧ ∃ N : L2.St → Hp → Prop, (∀ σ' H', N σ' H' → ∃ m', m' < m ∧ W (i + 1) m' σ' H') ∧ ∀ x H', J.yld i H x H' → g x σ H' fun σ2 H2 => tb { D with nx := N, ct := N, bk := D.nx } σ2 H2)
section
variable {K : PySem.W.Frag} {σ : L2.St} {H G : Hp} {Q : VK} {D : Ends}
theorem x_for {wi : TI} {g : TG} {tb : TS} (h : wi σ H fun J H1 => ForGo J g tb D σ H1) : tFor wi g tb D σ H := h
theorem x_iEnum {ta : TA} {R : It → Hp → Prop} (h : ta σ H fun vs H1 => ∃ a xs, vs = [.ref a] ∧ SqL K H1 a xs ∧ R (Ite K a) H1) : iEnum K ta σ H R := h
theorem x_iList {tl : TE} {R : It → Hp → Prop} (h : tl σ H fun v H1 => ∃ a, v = .ref a ∧ (∃ xs, SqL K H1 a xs) ∧ R (Itl K a) H1) : iList K tl σ H R := h
theorem x_iTup {tl : TE} {R : It → Hp → Prop} (h : tl σ H fun v H1 => ∃ a, v = .ref a ∧ (∃ xs, SqT K H1 a xs) ∧ R (Itt K a) H1) : iTup K tl σ H R := h
theorem x_gtup {n : Nat} {t : TGs} {a : Addr} {xs : List V} {R : L2.St → Hp → Prop} (h : H a = some (.tup xs)) (hl : xs.length = n) (k : t xs σ H R) : gTup K n t (.ref a) σ H R := ⟨a, xs, rfl, sqt h, hl, k⟩
theorem x_gcons {g : TG} {u : TGs} {v : V} {r : List V} {R : L2.St → Hp → Prop} (k : g v σ H fun σ' H' => u r σ' H' R) : gCons g u (v :: r) σ H R := ⟨v, r, rfl, k⟩
theorem x_gnil {R : L2.St → Hp → Prop} (k : R σ H) : gNil [] σ H R := ⟨rfl, k⟩
end
/-- a for over a list that stays -/
theorem forG {α : Type} {K : PySem.W.Frag} {R : Rp α} (mR : Mono R) {G H : Hp} {v : V} {xs : List α} {gt : TG} {tb : TS} {D : Ends} {σ : L2.St} (hx : IsL R G v xs) (e : Ex G H) (Pv : Nat → L2.St → Hp → Hp → Prop) (h0 : Pv 0 σ G H)
    (hst : ∀ i σ' G' H', i ≤ xs.length → Pv i σ' G' H' → Ex G G' ∧ Ex G' H')
    (turn : ∀ i x w σ1 G1 H1, xs[i]? = some x → Pv i σ1 G1 H1 → R G1 w x → gt w σ1 H1 fun σ2 H2 => tb { D with nx := fun σ' H' => ∃ G', Pv (i + 1) σ' G' H', ct := fun σ' H' => ∃ G', Pv (i + 1) σ' G' H', bk := D.nx } σ2 H2)
    (done : ∀ σ' G' H', Pv xs.length σ' G' H' → D.nx σ' H') : ∃ a, v = .ref a ∧ (∃ ys, SqL K H a ys) ∧ ForGo (Itl K a) gt tb D σ H := by
  obtain ⟨p, ws, rfl, hp, hr⟩ := hx
  have hl : ws.length = xs.length := paired_len hr
  refine ⟨p, rfl, ⟨ws, sq (e _ _ hp)⟩, ?_⟩
  refine for_it (walk_list (K := K) (a := p) (xs := ws)) (fun i σ' H' => ∃ G', Pv i σ' G' H') ⟨G, h0⟩ (fun i σ' H' hi ⟨G', h⟩ => ?_) (fun i x σ' H1 H2 hi ⟨G', h⟩ ⟨e2, hx⟩ => ?_) (fun σ' H' ⟨G', h⟩ => ?_)
  · obtain ⟨e1, e2⟩ := hst i σ' G' H' (by omega) h
    exact sq (e2 _ _ (e1 _ _ hp))
  · subst e2
    obtain ⟨y, hy, ry⟩ := paired_get hr hx
    exact turn i y x σ' G' _ hy h (mR _ _ _ _ (hst i σ' G' _ (by omega) h).1 ry)
  · rw [hl] at h
    exact done σ' G' H' h
/-- the same over enumerate -/
theorem enumG {α : Type} {K : PySem.W.Frag} {R : Rp α} (mR : Mono R) {G H : Hp} {v : V} {xs : List α} {gt : TG} {tb : TS} {D : Ends} {σ : L2.St} (hx : IsL R G v xs) (e : Ex G H) (Pv : Nat → L2.St → Hp → Hp → Prop) (h0 : Pv 0 σ G H)
    (hst : ∀ i σ' G' H', i ≤ xs.length → Pv i σ' G' H' → Ex G G' ∧ Ex G' H')
    (turn : ∀ i x w σ1 G1 H1 T G2 H2, xs[i]? = some x → Pv i σ1 G1 H1 → R G1 w x → St G1 H1 G2 H2 → H2 T = some (.tup [.int (i : Nat), w]) → gt (.ref T) σ1 H2 fun σ2 H2 => tb { D with nx := fun σ' H' => ∃ G', Pv (i + 1) σ' G' H', ct := fun σ' H' => ∃ G', Pv (i + 1) σ' G' H', bk := D.nx } σ2 H2)
    (done : ∀ σ' G' H', Pv xs.length σ' G' H' → D.nx σ' H') : ∃ a ys, [v] = [V.ref a] ∧ SqL K H a ys ∧ ForGo (Ite K a) gt tb D σ H := by
  obtain ⟨p, ws, rfl, hp, hr⟩ := hx
  have hl : ws.length = xs.length := paired_len hr
  refine ⟨p, ws, rfl, sq (e _ _ hp), ?_⟩
  refine for_it (walk_enum (K := K) (a := p) (xs := ws)) (fun i σ' H' => ∃ G', Pv i σ' G' H') ⟨G, h0⟩ (fun i σ' H' hi ⟨G', h⟩ => ?_) (fun i x σ' H1 H2 hi ⟨G', h⟩ ⟨T, x1, x2, e1, hT, e2, e3, e4⟩ => ?_) (fun σ' H' ⟨G', h⟩ => ?_)
  · obtain ⟨e1, e2⟩ := hst i σ' G' H' (by omega) h
    exact sq (e2 _ _ (e1 _ _ hp))
  · subst e1 e2
    cases e3
    obtain ⟨y, hy, ry⟩ := paired_get hr e4
    obtain ⟨q1, q2⟩ := hst i σ' G' H1 (by omega) h
    obtain ⟨s, ht⟩ := alF (o := .tup [.int (i : Nat), x2]) hT q2
    exact turn i y x2 σ' G' H1 T _ _ hy h (mR _ _ _ _ q1 ry) s upd_same
  · rw [hl] at h
    exact done σ' G' H' h
/-! ### append, in a for's turn: a list that grows -/
theorem x_bm {K : PySem.W.Frag} {T : String} {r : V → List V → Hp → VK → Prop} {to : TE} {t : TA} {σ : L2.St} {H : Hp} {Q : VK} (h : to σ H fun x H1 => tyV K T x H1 ∧ t σ H1 fun xs H2 => r x xs H2 Q) : tBM K T r to t σ H Q := h
theorem x_tyL {K : PySem.W.Frag} {G H : Hp} {l : Addr} {xs : List V} (h : Mu G H l (.lst xs)) : tyV K "list" (.ref l) H := Or.inl ⟨rfl, _, sq h.1⟩
theorem x_app {G H : Hp} {l : Addr} {xs : List V} {y : V} {Q : VK} (h : Mu G H l (.lst xs)) (e : Ex G H) (z : xs.length < sizeLine) (k : ∀ H1, Stm [l] G H G H1 → Mu G H1 l (.lst (xs ++ [y])) → Q .non H1) : rAppend (.ref l) [y] H Q :=
  ⟨l, xs, y, rfl, rfl, h.1, z, by obtain ⟨s, m⟩ := chgF (o' := .lst (xs ++ [y])) h e; exact k _ s m⟩
theorem x_lenL {α : Type} {K : PySem.W.Frag} {R : Rp α} {G H : Hp} {v : V} {xs : List α} {Q : VK} (hx : IsL R G v xs) (e : Ex G H) (h : Q (.int (xs.length : Nat)) H) : ∃ p ys, [v] = [V.ref p] ∧ (SqL K H p ys ∨ SqT K H p ys) ∧ Q (.int ys.length) H := by
  obtain ⟨p, ws, rfl, hp, hr⟩ := hx
  exact ⟨p, ws, rfl, .inl (sq (e _ _ hp)), by rw [paired_len hr]; exact h⟩
theorem x_ixL {α : Type} {K : PySem.W.Frag} {R : Rp α} {G H : Hp} {v : V} {xs : List α} {j : Nat} {x : α} {i : Int} {Q : VK} (hx : IsL R G v xs) (e : Ex G H) (hj : xs[j]? = some x) (hi : i = (j : Nat)) (h : ∀ w, R G w x → Q w H) : rIxL K v (.int i) H Q := by
  obtain ⟨p, ws, rfl, hp, hr⟩ := hx
  obtain ⟨w, hw, rw'⟩ := paired_get' hr hj
  subst hi
  exact ⟨p, ws, _, w, rfl, rfl, sq (e _ _ hp), atI_nat hw, h w rw'⟩
theorem x_ixT0 {α β : Type} {K : PySem.W.Frag} {R : Rp α} {S : Rp β} {G H : Hp} {v : V} {z : α × β} {Q : VK} (hx : IsT2 R S G v z) (e : Ex G H) (h : ∀ w, R G w z.1 → Q w H) : rIxT K v (.int 0) H Q := by
  obtain ⟨p, x, y, rfl, hp, hr, _⟩ := hx
  exact ⟨p, [x, y], 0, x, rfl, rfl, sqt (e _ _ hp), rfl, h x hr⟩
theorem x_ixT1 {α β : Type} {K : PySem.W.Frag} {R : Rp α} {S : Rp β} {G H : Hp} {v : V} {z : α × β} {Q : VK} (hx : IsT2 R S G v z) (e : Ex G H) (h : ∀ w, S G w z.2 → Q w H) : rIxT K v (.int 1) H Q := by
  obtain ⟨p, x, y, rfl, hp, _, hs⟩ := hx
  exact ⟨p, [x, y], 1, y, rfl, rfl, sqt (e _ _ hp), rfl, h y hs⟩
theorem x_gtup2 {α β : Type} {K : PySem.W.Frag} {R : Rp α} {S : Rp β} {G H : Hp} {v : V} {z : α × β} {i j : Nat} {σ : L2.St} {Q : L2.St → Hp → Prop} (hx : IsT2 R S G v z) (e : Ex G H) (h : ∀ x y, R G x z.1 → S G y z.2 → Q ((σ.set i (some x)).set j (some y)) H) : gTup K 2 (gCons (gName i) (gCons (gName j) gNil)) v σ H Q := by
  obtain ⟨p, x, y, rfl, hp, hr, hs⟩ := hx
  exact ⟨p, [x, y], rfl, sqt (e _ _ hp), rfl, x, [y], rfl, y, [], rfl, rfl, h x y hr hs⟩
theorem x_fld {K : PySem.W.Frag} {te : TE} {f : Str} {σ : L2.St} {H : Hp} {Q : VK} (h : te σ H fun x H1 => ∃ a C dx fs v, x = .ref a ∧ H1 a = some (.ins C dx fs) ∧ Cls K C ∧ NoAttr K C f ∧ fs.lookup f = some v ∧ Q v H1) : tFld K te f σ H Q := h
end G

/-! ## GFor2 -/
set_option Elab.async false
set_option linter.all false
set_option maxRecDepth 100000
namespace G
open PySem PySem.Spec PyProof.Rows L2
theorem sd_len : ∀ xs : List Int, (sd xs).length ≤ xs.length
  | [] => Nat.le_refl _
  | a :: r => by
    have hi : ∀ l : List Int, (ins a l).length ≤ l.length + 1 := fun l => by
      induction l with
      | nil => exact Nat.le_refl _
      | cons b l ih =>
        unfold ins
        split
        · simp
        · split
          · simp
          · simpa using ih
    exact Nat.le_trans (hi _) (Nat.succ_le_succ (sd_len r))
section
variable {K : PySem.W.Frag} {w : World} {G H : Hp} {Q : VK}
theorem x_setI {v : V} {xs : List Int} (hx : IsL IsI G v xs) (e : Ex G H) (z : xs.length + 1 < scanBound) (h : ∀ p H1 c, St G H G H1 → H1 p = some (SetO w p (fun j => decide (j ∈ xs)) c) → Q (.ref p) H1) : rSetI K w [v] H Q := by
  obtain ⟨p, ws, rfl, hp, hr⟩ := hx
  obtain rfl := paired_ints hr
  refine ⟨p, xs, rfl, sq (e _ _ hp), z, fun c p1 hp1 => ?_⟩
  obtain ⟨s1, m1⟩ := almF (o := SetO w p1 (fun j => decide (j ∈ xs)) c) hp1 e
  exact h p1 _ c s1 upd_same
theorem x_sortedSet {a : Addr} {xs : List Int} {c : Nat} (ha : H a = some (SetO w a (fun j => decide (j ∈ xs)) c)) (e : Ex G H) (h : ∀ p G1 H1, St G H G1 H1 → IsL IsI G1 (.ref p) (sd xs) → Q (.ref p) H1) : rSortedSetA w [.ref a] H Q := by
  refine ⟨a, _, c, rfl, ha, fun ns p2 hs hm hp2 => ?_⟩
  have en : ns = sd xs := sd_eq hs fun x => by rw [hm x]; simp
  subst en
  obtain ⟨s2, g2⟩ := alF (o := .lst ((sd xs).map V.int)) hp2 e
  exact h p2 _ _ s2 ⟨p2, _, rfl, g2, ints_paired _⟩
end
/-! ### displays, the wish kept apart -/
def LstGo (xs : List V) (H : Hp) (Q : VK) : Prop := xs.length ≤ sizeLine ∧ ∀ p, H p = none → Q (.ref p) (upd H p (.lst xs))
def TupGo (xs : List V) (H : Hp) (Q : VK) : Prop := xs.length ≤ sizeLine ∧ ∀ p, H p = none → Q (.ref p) (upd H p (.tup xs))
section
variable {σ : L2.St} {G H : Hp} {Q : VK}
theorem x_lstG {t : TA} (h : t σ H fun xs H1 => LstGo xs H1 Q) : tLst t σ H Q := h
theorem x_tupG {t : TA} (h : t σ H fun xs H1 => TupGo xs H1 Q) : tTup t σ H Q := h
theorem lstI {xs : List V} (e : Ex G H) (z : xs.length ≤ 1000) (h : ∀ p G1 H1, St G H G1 H1 → G1 p = some (.lst xs) → Q (.ref p) H1) : LstGo xs H Q :=
  ⟨Nat.le_trans z (by decide), fun p hp => al (Q := fun H' => Q (.ref p) H') hp e fun G1 H1 s g => h p G1 H1 s g⟩
theorem lstM {xs : List V} (e : Ex G H) (z : xs.length ≤ 1000) (h : ∀ p H1, H p = none → St G H G H1 → Mu G H1 p (.lst xs) → Q (.ref p) H1) : LstGo xs H Q :=
  ⟨Nat.le_trans z (by decide), fun p hp => alm (Q := fun H' => Q (.ref p) H') hp e fun H1 s m _ => h p H1 hp s m⟩
theorem tupI {xs : List V} (e : Ex G H) (z : xs.length ≤ 1000) (h : ∀ p G1 H1, St G H G1 H1 → G1 p = some (.tup xs) → Q (.ref p) H1) : TupGo xs H Q :=
  ⟨Nat.le_trans z (by decide), fun p hp => al (Q := fun H' => Q (.ref p) H') hp e fun G1 H1 s g => h p G1 H1 s g⟩
end
def rLenL (K : PySem.W.Frag) : List V → Hp → VK → Prop := fun xs H Q => ∃ p ys, xs = [.ref p] ∧ (SqL K H p ys ∨ SqT K H p ys) ∧ Q (.int ys.length) H
theorem cr_lenL {X : Cx} : CallR X (.builtin "len") (rLenL X.K) := call_len_seq
theorem lenL {α : Type} {K : PySem.W.Frag} {R : Rp α} {G H : Hp} {v : V} {xs : List α} {Q : VK} (hx : IsL R G v xs) (e : Ex G H) (h : Q (.int (xs.length : Nat)) H) : rLenL K [v] H Q := by
  obtain ⟨p, ws, rfl, hp, hr⟩ := hx
  exact ⟨p, ws, rfl, .inl (sq (e _ _ hp)), by rw [paired_len hr]; exact h⟩
/-- a field is read -/
def FldGo (K : PySem.W.Frag) (f : Str) (x : V) (H : Hp) (Q : VK) : Prop := ∃ a C dx fs v, x = .ref a ∧ H a = some (.ins C dx fs) ∧ Cls K C ∧ NoAttr K C f ∧ fs.lookup f = some v ∧ Q v H
theorem x_fldG {K : PySem.W.Frag} {te : TE} {f : Str} {σ : L2.St} {H : Hp} {Q : VK} (h : te σ H fun x H1 => FldGo K f x H1 Q) : tFld K te f σ H Q := h
theorem fldG {K : PySem.W.Frag} {f : Str} {a C dx : Addr} {fs : List (Str × V)} {v : V} {H : Hp} {Q : VK} (h : H a = some (.ins C dx fs)) (c : Cls K C) (n : NoAttr K C f) (l : fs.lookup f = some v) (k : Q v H) : FldGo K f (.ref a) H Q := ⟨a, C, dx, fs, v, rfl, h, c, n, l, k⟩
/-- a method's receiver -/
def MethGo (C : Addr) (m : Str) (sp : Sp) (dvs : List V) (E : XK) (t : TA) (σ : L2.St) (x : V) (H : Hp) (Q : VK) : Prop := ∃ a dx fs, x = .ref a ∧ H a = some (.ins C dx fs) ∧ fs.lookup m = none ∧ t σ H fun vs H2 => sp (x :: (vs ++ dvs)) H2 Q E
theorem x_meth {C : Addr} {m : Str} {sp : Sp} {dvs : List V} {E : XK} {ta : TE} {t : TA} {σ : L2.St} {H : Hp} {Q : VK} (h : ta σ H fun x H1 => MethGo C m sp dvs E t σ x H1 Q) : tMeth C m sp dvs E ta t σ H Q := h
theorem methG {C : Addr} {m : Str} {sp : Sp} {dvs : List V} {E : XK} {t : TA} {σ : L2.St} {a dx : Addr} {fs : List (Str × V)} {H : Hp} {Q : VK} (h : H a = some (.ins C dx fs)) (l : fs.lookup m = none) (k : t σ H fun vs H2 => sp (.ref a :: (vs ++ dvs)) H2 Q E) : MethGo C m sp dvs E t σ (.ref a) H Q := ⟨a, dx, fs, rfl, h, l, k⟩
end G
namespace G
open PySem PySem.Spec PyProof.Rows L2
section
variable {σ : L2.St} {H : Hp} {Q : VK}
theorem x_sl {r : V → Option Int → Option Int → Hp → VK → Prop} {te : TE} {tl th : TO} (h : te σ H fun x H1 => tl σ H1 fun l H2 => th σ H2 fun u H3 => r x l u H3 Q) : tSl r te tl th σ H Q := h
theorem x_nopart {R : Option Int → Hp → Prop} (h : R none H) : tNoPart σ H R := h
theorem x_part {te : TE} {R : Option Int → Hp → Prop} (h : te σ H fun x H1 => ∃ i, x = .int i ∧ R (some i) H1) : tPart te σ H R := h
theorem x_int {i : Int} {R : Int → Prop} (h : R i) : ∃ j, V.int i = .int j ∧ R j := ⟨i, rfl, h⟩
theorem x_yes {R : Bool → Hp → Prop} (h : R true H) : tYes σ H R := h
end
end G
namespace G
open PySem PySem.Spec PyProof.Rows L2
def rIsN : R2 := fun x y H Q => y = .non ∧ Q (.bl (decide (x = .non))) H
def rNotN : R2 := fun x y H Q => y = .non ∧ Q (.bl (!decide (x = .non))) H
theorem op_isNG {X : Cx} : OpR X (compareOp .Is) rIsN := op_isN
theorem op_notNG {X : Cx} : OpR X (compareOp .IsNot) rNotN := op_notN
theorem x_isNG {x : V} {H : Hp} {Q : VK} (h : Q (.bl (decide (x = .non))) H) : rIsN x .non H Q := ⟨rfl, h⟩
theorem x_notNG {x : V} {H : Hp} {Q : VK} (h : Q (.bl (!decide (x = .non))) H) : rNotN x .non H Q := ⟨rfl, h⟩
end G

/-! ## GData -/
set_option Elab.async false
set_option linter.all false
set_option maxRecDepth 100000
namespace G
open PySem PySem.Spec PyProof.Rows L2
def oD : Option Int → PyData
  | none => .none
  | some i => .int i
def rnD (z : Rn) : PyData := .tuple [.int z.1, oD z.2]
theorem rnD_lay (z : Rn) : (rnD z).canLay0 = true := by
  obtain ⟨a, b⟩ := z
  cases b <;> simp [rnD, oD, PyData.canLay0, PyData.canLayAll0]
theorem rnD_depth (z : Rn) : (rnD z).depth = 1 := by
  obtain ⟨a, b⟩ := z
  cases b <;> simp [rnD, oD, PyData.depth, PyData.depthAll]
theorem rnDs_lay : ∀ zs : List Rn, PyData.canLayAll0 (zs.map rnD) = true
  | [] => rfl
  | z :: zs => by simp [PyData.canLayAll0, rnD_lay, rnDs_lay zs]
theorem rnDs_depth : ∀ zs : List Rn, PyData.depthAll (zs.map rnD) ≤ 1
  | [] => Nat.zero_le _
  | z :: zs => by
    have := rnDs_depth zs
    simp only [List.map_cons, PyData.depthAll, rnD_depth]
    omega
theorem rnD_shaped (z : Rn) : SeqAt.shaped (rnD z) = true := by
  unfold SeqAt.shaped
  rw [rnD_lay, rnD_depth]; rfl
theorem rnDs_shaped (zs : List Rn) : SeqAt.shaped (.list (zs.map rnD)) = true := by
  unfold SeqAt.shaped
  have h := rnDs_depth zs
  have h1 : (PyData.list (zs.map rnD)).canLay0 = true := by show PyData.canLayAll0 _ = true; exact rnDs_lay zs
  have h2 : (PyData.list (zs.map rnD)).depth ≤ 64 := by show PyData.depthAll _ + 1 ≤ 64; omega
  rw [h1, Bool.true_and]
  exact decide_eq_true h2
theorem oD_eqv (a b : Option Int) : PyData.eqv (oD a) (oD b) = decide (a = b) := by
  cases a <;> cases b <;> simp [oD, PyData.eqv]
  rename_i x y
  by_cases c : x = y <;> simp [c]
theorem rnD_eqv (z w : Rn) : PyData.eqv (rnD z) (rnD w) = decide (z = w) := by
  obtain ⟨a, b⟩ := z
  obtain ⟨c, d⟩ := w
  simp only [rnD, PyData.eqv, PyData.eqvAll, oD_eqv, Prod.mk.injEq, Bool.and_true]
  by_cases h1 : a = c <;> by_cases h2 : b = d <;> simp [h1, h2]
theorem nilD_eqv (zs : List Rn) : PyData.eqv (.list (zs.map rnD)) (.list []) = zs.isEmpty := by
  cases zs <;> rfl
section
variable {K : PySem.W.Frag} {G H : Hp} {Q : VK}
theorem dp_o {o : Option Int} : Dp K H (optV o) (oD o) := by cases o; exact .non; exact .int _
theorem dp_rn {v : V} {z : Rn} (hx : IsRn G v z) (e : Ex G H) : Dp K H v (rnD z) := by
  obtain ⟨p, x, y, rfl, hp, rfl, rfl⟩ := hx
  exact .tup (sqt (e _ _ hp)) (.cons (.int _) (.cons dp_o .nil))
theorem dp_all (e : Ex G H) : ∀ {vs : List V} {zs : List Rn}, Paired (IsRn G) vs zs → DpAll K H vs (zs.map rnD)
  | _, _, .nil => .nil
  | _, _, .cons r t => .cons (dp_rn r e) (dp_all e t)
theorem dp_rns {v : V} {zs : List Rn} (hx : IsL IsRn G v zs) (e : Ex G H) : Dp K H v (.list (zs.map rnD)) := by
  obtain ⟨p, ws, rfl, hp, hr⟩ := hx
  exact .lst (sq (e _ _ hp)) (dp_all e hr)
/-- runs != [] -/
theorem neNil {v : V} {zs : List Rn} {p : Addr} (hx : IsL IsRn G v zs) (e : Ex G H) (hp : H p = some (.lst [])) (h : Q (.bl (!zs.isEmpty)) H) : rNeD K v (.ref p) H Q :=
  ⟨_, _, dp_rns hx e, .lst (sq hp) .nil, rnDs_shaped zs, by rfl, by rw [nilD_eqv]; exact h⟩
/-- run not in runs -/
theorem notInRn {v u : V} {z : Rn} {zs : List Rn} (hz : IsRn G v z) (hx : IsL IsRn G u zs) (e : Ex G H) (h : Q (.bl (!zs.contains z)) H) : rNotInD K v u H Q := by
  refine ⟨_, _, dp_rn hz e, dp_rns hx e, rnD_shaped z, rnDs_shaped zs, ?_⟩
  have e2 : ((zs.map rnD).any fun y => PyData.eqv y (rnD z)) = zs.contains z := by
    rw [List.any_map, List.contains_eq_any_beq]
    congr 1
    funext y
    show PyData.eqv (rnD y) (rnD z) = (z == y)
    rw [rnD_eqv]
    by_cases c : y = z
    · subst c; simp
    · have c' : ¬ z = y := fun q => c q.symm
      simp [c, c']
  rw [e2]; exact h
/-- xs + ys -/
theorem catL {α : Type} {R : Rp α} (mR : Mono R) {v u : V} {xs ys : List α} (hx : IsL R G v xs) (hy : IsL R G u ys) (e : Ex G H) (z : xs.length + ys.length ≤ sizeLine) (h : ∀ p G1 H1, St G H G1 H1 → IsL R G1 (.ref p) (xs ++ ys) → Q (.ref p) H1) : rCat v u H Q := by
  obtain ⟨p, ws, rfl, hp, hr⟩ := hx
  obtain ⟨q, zs, rfl, hq, hs⟩ := hy
  refine ⟨p, q, ws, zs, rfl, rfl, e _ _ hp, e _ _ hq, by rw [paired_len hr, paired_len hs]; exact z, fun r hr' => ?_⟩
  obtain ⟨s, g⟩ := alF (o := .lst (ws ++ zs)) hr' e
  exact h r _ _ s ⟨r, _, rfl, g, paired_imp (fun a b q => mR _ _ a b s.g q) (paired_app hr hs)⟩
/-- xs[:-1] -/
theorem sliceInit {α : Type} {R : Rp α} (mR : Mono R) {v : V} {xs : List α} (hx : IsL R G v xs) (e : Ex G H) (h : ∀ p G1 H1, St G H G1 H1 → IsL R G1 (.ref p) xs.dropLast → Q (.ref p) H1) : rSlL K v none (some (-1)) H Q := by
  obtain ⟨p, ws, rfl, hp, hr⟩ := hx
  refine ⟨p, ws, rfl, sq (e _ _ hp), fun r hr' => ?_⟩
  have ec : cutV ws none (some (-1)) = ws.dropLast := by
    rcases ws.eq_nil_or_concat with rfl | ⟨l, a, rfl⟩
    · rfl
    · have e1 : (-1 + ((l.length : Int) + 1)).toNat = l.length := by omega
      simp [cutV, HT.sIx, e1]
  obtain ⟨s, g⟩ := alF (o := .lst (cutV ws none (some (-1)))) hr' e
  have g' := g
  rw [ec] at g'
  rw [ec] at s
  have s' := s
  refine h r (upd G r (.lst ws.dropLast)) (upd H r (.lst (cutV ws none (some (-1))))) (by rw [ec]; exact s) ⟨r, _, rfl, by rw [upd_same], ?_⟩
  have pd : ∀ {ws : List V} {xs : List α}, Paired (R G) ws xs → Paired (R G) ws.dropLast xs.dropLast := by
    intro ws xs hr
    induction hr with
    | nil => exact .nil
    | cons r t ih =>
      cases t with
      | nil => exact .nil
      | cons r2 t2 => exact .cons r ih
  exact paired_imp (fun a b q => mR _ _ a b s.g q) (pd hr)
/-- xs[-1] -/
theorem ixLast {α : Type} {R : Rp α} {v : V} {xs : List α} {x : α} (hx : IsL R G v xs) (e : Ex G H) (hl : xs.getLast? = some x) (h : ∀ w, R G w x → Q w H) : rIxL K v (.int (-1)) H Q := by
  obtain ⟨p, ws, rfl, hp, hr⟩ := hx
  rcases ws.eq_nil_or_concat with rfl | ⟨l, a, rfl⟩
  · cases hr; cases hl
  · have hl2 : (l ++ [a]).getLast? = some a := by simp
    have hlen := paired_len hr
    have hlast : (l ++ [a])[l.length]? = some a := by simp
    rw [List.concat_eq_append] at *
    obtain ⟨y, hy, ry⟩ := paired_get (i := l.length) (x := a) hr hlast
    have : xs.getLast? = some y := by
      rw [List.getLast?_eq_getElem?, ← hlen]
      simpa using hy
    rw [hl] at this
    cases this
    exact ⟨p, l ++ [a], -1, a, rfl, rfl, sq (e _ _ hp), atI_last l a, h a ry⟩
end
end G

/-! ## GCall -/
set_option Elab.async false
set_option linter.all false
set_option maxRecDepth 100000
namespace G
open PySem PySem.Spec PyProof.Rows L2
/-- a call of a slot that holds one of several defs -/
def tCallO (i : Nat) (S : Addr → Sp → Prop) (t : TA) : TE := fun σ H Q => ∃ f sp, σ[i]? = some (some (.ref f)) ∧ S f sp ∧ t σ H fun vs H1 => sp vs H1 Q (fun _ _ _ => False)
section
variable {X : Cx} {k i : Nat} {x : Str} {p pos : Pos} {e : Expr} {es : List Expr} {t : TA}
theorem pe_callO {S : Addr → Sp → Prop} (A : ∀ f sp, S f sp → Held X.prog X.w X.K X.mg X.base k f sp) (hr : Room k X.A) (hN : X.N[i]? = some x) (hv : Vis X.env.scope x) (ha : PA X (e :: es) t)
    (hdb : (x == ("__debug__" : Str)) = false := by decide) (hcd : (x == ("__classdict__" : Str)) = false := by decide)
    (he : starEach (e :: es) X.env = (false, eval e X.env) :: starEach es X.env := by rfl) (hpl : (backTo pos (starEach es X.env)).any (·.1) = false := by rfl) : PE X (.Call (.Name x p) (e :: es) [] pos) (tCallO i S t) := by
  refine ⟨fun pins s σ H Q I h => ?_⟩
  obtain ⟨f, sp, hs, hS, ht⟩ := h
  obtain ⟨fd, ps, F, hk, hb⟩ := (A f sp hS).ex
  refine (pe_callL (i := i) (f := f) (sp := sp) (dvs := []) (E := fun _ _ _ => False) F hr hN hv hk hb .nil (fun _ _ _ _ _ _ _ z => z.elim) ha hdb hcd he hpl).run pins s σ H Q I ⟨hs, ?_⟩
  have e0 : (fun (vs : List V) (H1 : Hp) => sp (vs ++ []) H1 Q (fun _ _ _ => False)) = fun vs H1 => sp vs H1 Q (fun _ _ _ => False) := by
    funext vs H1
    rw [List.append_nil]
  show t σ H (fun vs H1 => sp (vs ++ []) H1 Q (fun _ _ _ => False))
  rw [e0]
  exact ht
end
section
variable {K : PySem.W.Frag} {σ : L2.St} {H G : Hp} {Q : VK}
theorem x_callO {i : Nat} {f : Addr} {sp : Sp} {S : Addr → Sp → Prop} {t : TA} (e : σ[i]? = some (some (.ref f))) (hS : S f sp) (h : t σ H fun vs H1 => sp vs H1 Q (fun _ _ _ => False)) : tCallO i S t σ H Q := ⟨f, sp, e, hS, h⟩
theorem anyL {v : V} {bs : List Bool} (hx : IsL IsB G v bs) (e : Ex G H) (h : Q (.bl (bs.any id)) H) : rAny K [v] H Q := by
  obtain ⟨p, ws, rfl, hp, hr⟩ := hx
  obtain rfl := paired_bools hr
  exact ⟨p, bs, rfl, sq (e _ _ hp), h⟩
theorem allL {v : V} {bs : List Bool} (hx : IsL IsB G v bs) (e : Ex G H) (h : Q (.bl (bs.all id)) H) : rAll K [v] H Q := by
  obtain ⟨p, ws, rfl, hp, hr⟩ := hx
  obtain rfl := paired_bools hr
  exact ⟨p, bs, rfl, sq (e _ _ hp), h⟩
end
/-! ### rules with the fragment named -/
section
variable {X : Cx} {K : PySem.W.Frag} {e : Expr} {f : Str} {pos : Pos} {ta : TE}
theorem fldK (he : PE X e ta) (hK : X.K = K) (hb : attributeBase e f X.env (eval e X.env) = eval e X.env) : PE X (.Attribute e f pos) (tFld K ta f) := by
  subst hK; exact pe_fld he hb
theorem ixLK (hK : X.K = K) : IxR X (rIxL K) := by subst hK; exact ix_list
theorem ixTK (hK : X.K = K) : IxR X (rIxT K) := by subst hK; exact ix_tup
theorem isiK (hK : X.K = K) : CallR X (.builtin "isinstance") (rIsi K) := by subst hK; exact call_isi
theorem lenK (hK : X.K = K) : CallR X (.builtin "len") (rLenL K) := by subst hK; exact cr_lenL
end
end G

/-! ## GMake -/
set_option Elab.async false
set_option linter.all false
set_option maxRecDepth 100000
namespace G
open PySem PySem.Spec PyProof.Rows L2
/-- a field is written -/
def SFldGo (K : PySem.W.Frag) (f : Str) (x y : V) (D : Ends) (σ : L2.St) (H : Hp) : Prop := ∃ a C dx fs, x = .ref a ∧ H a = some (.ins C dx fs) ∧ Cls K C ∧ NoAttr K C f ∧ fs.length < 1000 ∧ D.nx σ (upd H a (.ins C dx (putF f y fs)))
def MakeGo (C : Addr) (sp : Sp) (dvs vs : List V) (H : Hp) (Q : VK) (E : XK) : Prop := ∀ x dx, H x = none → H dx = none → dx ≠ x → sp (.ref x :: (vs ++ dvs)) (upd (upd H dx (.own x)) x (.ins C dx [])) (fun v H2 => v = .non ∧ Q (.ref x) H2) E
section
variable {K : PySem.W.Frag} {σ : L2.St} {H G : Hp} {Q : VK} {D : Ends}
theorem x_sfld {ta tv : TE} {f : Str} (h : tv σ H fun y H1 => ta σ H1 fun x H2 => SFldGo K f x y D σ H2) : sFld K ta tv f D σ H := h
theorem setF {f : Str} {a C dx : Addr} {fs : List (Str × V)} {y : V} (h : H a = some (.ins C dx fs)) (c : Cls K C) (n : NoAttr K C f) (l : fs.length < 1000) (k : D.nx σ (upd H a (.ins C dx (putF f y fs)))) : SFldGo K f (.ref a) y D σ H := ⟨a, C, dx, fs, rfl, h, c, n, l, k⟩
theorem x_make {C : Addr} {sp : Sp} {dvs : List V} {E : XK} {t : TA} (h : t σ H fun vs H1 => MakeGo C sp dvs vs H1 Q E) : tMake C sp dvs E t σ H Q := h
theorem x_rt {v : V} {D : Ends} (h : D.rt v H) : D.rt v H := h
/-- an own object, empty as it is made: what its __init__ gets -/
theorem makeG {C : Addr} {sp : Sp} {dvs vs : List V} {E : XK} (e : Ex G H) (h : ∀ x dx H1, H x = none → H dx = none → dx ≠ x → St G H G H1 → Mu G H1 x (.ins C dx []) → sp (.ref x :: (vs ++ dvs)) H1 (fun v H2 => v = .non ∧ Q (.ref x) H2) E) : MakeGo C sp dvs vs H Q E := by
  intro x dx hx hd hn
  obtain ⟨s1, m1⟩ := almF (o := .own x) hd e
  have hx1 : (upd H dx (.own x)) x = none := by rw [upd_ne (fun z => hn z.symm)]; exact hx
  obtain ⟨s2, m2⟩ := almF (o := .ins C dx []) hx1 s1.i
  exact h x dx _ hx hd hn (s1.trans s2) m2
end
end G

/-! ## GForm -/
set_option Elab.async false
set_option linter.all false
set_option maxRecDepth 100000
namespace G
open PySem PySem.Spec PyProof.Rows L2
/-! ### form_of: what it makes -/
abbrev Bg := List (Rn × Int)
def gone (beh : Option Int) (f : Int) (runs : List Rn) (x : Rn × Int) : Bool := !runs.contains x.1 || !decide (f = beh.getD 0 + 1)
def keep (beh : Option Int) (f : Int) (runs : List Rn) (x : Rn × Int) : Bool := !gone beh f runs x
def setd (f : Int) (bg : Bg) (r : Rn) : Bg := if (bg.any fun x => decide (x.1 = r)) = true then bg else bg ++ [(r, f)]
def mkB (beh : Option Int) (x : Rn × Int) : Blk := ⟨x.2, x.1.1, beh, x.1.2⟩
structure FS where
  found : List Blk
  begun : Bg
  behind : Option Int
def formStep (s : FS) (b : Band) : FS := ⟨s.found ++ (s.begun.filter (gone s.behind b.1 b.2.2)).map (mkB s.behind), b.2.2.foldl (setd b.1) (s.begun.filter (keep s.behind b.1 b.2.2)), b.2.1⟩
def formSt (bs : List Band) : FS := bs.foldl formStep ⟨[], [], some 0⟩
def formRaw (bs : List Band) : List Blk := (formSt bs).found ++ (formSt bs).begun.map (mkB (formSt bs).behind)
def leB (a b : Blk) : Bool := decide (a.t < b.t) || (decide (a.t = b.t) && decide (a.l ≤ b.l))
def insB (x : Blk) : List Blk → List Blk
  | [] => [x]
  | y :: r => if leB x y = true then x :: y :: r else y :: insB x r
def sortB (xs : List Blk) : List Blk := xs.foldr insB []
def formOf (bs : List Band) : List Blk := sortB (formRaw bs)
theorem insB_perm (x : Blk) : ∀ l : List Blk, (insB x l).Perm (x :: l)
  | [] => List.Perm.refl _
  | y :: r => by
    unfold insB
    split
    · exact List.Perm.refl _
    · exact ((insB_perm x r).cons y).trans (List.Perm.swap x y r)
theorem sortB_perm : ∀ l : List Blk, (sortB l).Perm l
  | [] => List.Perm.refl _
  | x :: r => (insB_perm x _).trans ((sortB_perm r).cons x)
theorem leB_iff (a b : Blk) : leB a b = true ↔ a.t < b.t ∨ (a.t = b.t ∧ a.l ≤ b.l) := by
  unfold leB
  rw [Bool.or_eq_true, Bool.and_eq_true]
  simp
theorem leB_tot {a b : Blk} (h : ¬ leB a b = true) : leB b a = true := by
  rw [leB_iff] at *; omega
theorem leB_trans {a b c : Blk} (h : leB a b = true) (g : leB b c = true) : leB a c = true := by
  rw [leB_iff] at *; omega
theorem insB_sorted (x : Blk) : ∀ l : List Blk, l.Pairwise (fun a b => leB a b = true) → (insB x l).Pairwise (fun a b => leB a b = true)
  | [], _ => by simp [insB]
  | y :: r, h => by
    have h' := List.pairwise_cons.mp h
    unfold insB
    split
    · rename_i c
      refine List.pairwise_cons.mpr ⟨fun z hz => ?_, h⟩
      rcases List.mem_cons.mp hz with e | e
      · rw [e]; exact c
      · exact leB_trans c (h'.1 z e)
    · rename_i c
      refine List.pairwise_cons.mpr ⟨fun z hz => ?_, insB_sorted x r h'.2⟩
      rcases List.mem_cons.mp ((insB_perm x r).mem_iff.mp hz) with e | e
      · rw [e]; exact leB_tot c
      · exact h'.1 z e
theorem sortB_sorted : ∀ l : List Blk, (sortB l).Pairwise (fun a b => leB a b = true)
  | [] => List.Pairwise.nil
  | x :: r => insB_sorted x _ (sortB_sorted r)
theorem perm_sorted : ∀ {a b : List Blk}, a.Perm b → a.Pairwise (fun x y => leB x y = true) → b.Pairwise (fun x y => leB x y = true) → (∀ x ∈ b, ∀ y ∈ b, x.t = y.t → x.l = y.l → x = y) → a = b
  | [], b, p, _, _, _ => (List.Perm.nil_eq p)
  | x :: a, [], p, _, _, _ => absurd (List.Perm.length_eq p) (by simp)
  | x :: a, y :: b, p, ha, hb, hn => by
    have ha' := List.pairwise_cons.mp ha
    have hb' := List.pairwise_cons.mp hb
    have hx : x ∈ y :: b := p.mem_iff.mp (List.mem_cons_self ..)
    have hy : y ∈ x :: a := p.mem_iff.mpr (List.mem_cons_self ..)
    have e : x = y := by
      rcases List.mem_cons.mp hx with e | e
      · exact e
      · rcases List.mem_cons.mp hy with f | f
        · exact f.symm
        · have q1 := (leB_iff _ _).mp (hb'.1 x e)
          have q2 := (leB_iff _ _).mp (ha'.1 y f)
          exact hn x hx y (List.mem_cons_self ..) (by omega) (by omega)
    subst e
    rw [perm_sorted (List.Perm.cons_inv p) ha'.2 hb'.2 fun u hu v hv => hn u (List.mem_cons_of_mem _ hu) v (List.mem_cons_of_mem _ hv)]
/-- no two of the blocks begin at one cell -/
def apart (xs : List Blk) : Bool := decide ((xs.map fun b => (b.t, b.l)).Nodup)
theorem apart_of : ∀ {xs : List Blk}, (xs.map fun b => (b.t, b.l)).Nodup → ∀ x ∈ xs, ∀ y ∈ xs, x.t = y.t → x.l = y.l → x = y
  | z :: xs, h, x, hx, y, hy, e1, e2 => by
    have h' := List.nodup_cons.mp h
    rcases List.mem_cons.mp hx with rfl | hx'
    · rcases List.mem_cons.mp hy with rfl | hy'
      · rfl
      · exact absurd (List.mem_map.mpr ⟨y, hy', by show (y.t, y.l) = (x.t, x.l); rw [e1, e2]⟩) h'.1
    · rcases List.mem_cons.mp hy with rfl | hy'
      · exact absurd (List.mem_map.mpr ⟨x, hx', by show (x.t, x.l) = (y.t, y.l); rw [e1, e2]⟩) h'.1
      · exact apart_of h'.2 x hx' y hy' e1 e2
theorem sort_unique {ys xs : List Blk} (p : ys.Perm xs) (s : ys.Pairwise fun x y => leB x y = true) (h : apart xs = true) : ys = sortB xs := by
  have h0 : (xs.map fun b => (b.t, b.l)).Nodup := of_decide_eq_true h
  refine perm_sorted (p.trans (sortB_perm xs).symm) s (sortB_sorted xs) fun x hx y hy e1 e2 => ?_
  exact apart_of h0 x ((sortB_perm xs).mem_iff.mp hx) y ((sortB_perm xs).mem_iff.mp hy) e1 e2
/-- behind every band but the last another begins -/
def chained (bs : List Band) : Bool := bs.dropLast.all fun b => b.2.1.isSome
/-! ### the dict of what is begun -/
def DX (G : Hp) (xs : Xs) (bg : Bg) : Prop := Paired (fun x y => x.1 = y.1 ∧ x.2.2 = .int y.2 ∧ G x.2.1 = some (.tup [.int y.1.1, optV y.1.2])) xs bg
theorem DX.mono {G G' : Hp} {xs : Xs} {bg : Bg} (h : DX G xs bg) (e : Ex G G') : DX G' xs bg := paired_imp (fun a b q => ⟨q.1, q.2.1, e _ _ q.2.2⟩) h
theorem DX.kx {G H : Hp} (e : Ex G H) : ∀ {xs : Xs} {bg : Bg}, DX G xs bg → KX H xs
  | _, _, .nil => fun x hx => by cases hx
  | _, _, .cons (a := a) r t => fun x hx => by
    rcases List.mem_cons.mp hx with rfl | h
    · rw [r.1]; exact e _ _ r.2.2
    · exact DX.kx e t x h
theorem DX.len {G : Hp} {xs : Xs} {bg : Bg} (h : DX G xs bg) : xs.length = bg.length := paired_len h
theorem DX.val {G : Hp} (r : Rn) : ∀ {xs : Xs} {bg : Bg}, DX G xs bg → ((valX xs r).isSome = bg.any fun x => decide (x.1 = r))
  | _, _, .nil => rfl
  | _, _, .cons (a := a) (b := b) q t => by
    have ih := DX.val r t
    unfold valX at ih ⊢
    rw [List.find?_cons, List.any_cons, q.1]
    by_cases c : b.1 = r
    · rw [decide_eq_true c]; rfl
    · rw [decide_eq_false c]; exact ih
theorem DX.drop {G : Hp} (r : Rn) : ∀ {xs : Xs} {bg : Bg}, DX G xs bg → DX G (dropX xs r) (bg.filter fun x => decide (x.1 ≠ r))
  | _, _, .nil => .nil
  | _, _, .cons (a := a) (b := b) q t => by
    have ih := DX.drop r t
    unfold dropX at ih ⊢
    rw [List.filter_cons, List.filter_cons, q.1]
    by_cases c : b.1 = r
    · rw [if_neg (by simp [c]), if_neg (by simp [c])]; exact ih
    · rw [if_pos (by simp [c]), if_pos (by simp [c])]; exact .cons q ih
theorem DX.snoc {G : Hp} {xs : Xs} {bg : Bg} {t : Addr} {r : Rn} {f : Int} (h : DX G xs bg) (g : G t = some (.tup [.int r.1, optV r.2])) : DX G (xs ++ [(r, t, .int f)]) (bg ++ [(r, f)]) := paired_snoc ⟨rfl, rfl, g⟩ h
def kNd (bg : Bg) : Prop := (bg.map (·.1)).Nodup
theorem setd_nd {f : Int} {bg : Bg} {r : Rn} (h : kNd bg) : kNd (setd f bg r) := by
  unfold setd
  split
  · exact h
  · rename_i c
    unfold kNd
    rw [List.map_append]
    refine List.nodup_append.mpr ⟨h, by simp, fun a ha b hb => ?_⟩
    simp only [List.map_cons, List.map_nil, List.mem_singleton] at hb
    subst hb
    rintro rfl
    refine c ?_
    obtain ⟨x, hx, e⟩ := List.mem_map.mp ha
    exact List.any_eq_true.mpr ⟨x, hx, decide_eq_true e⟩
theorem setds_nd {f : Int} : ∀ (rs : List Rn) {bg : Bg}, kNd bg → kNd (rs.foldl (setd f) bg)
  | [], _, h => h
  | r :: rs, _, h => setds_nd rs (setd_nd h)
theorem filter_nd {bg : Bg} {p : Rn × Int → Bool} (h : kNd bg) : kNd (bg.filter p) := List.Nodup.sublist (List.Sublist.map _ (List.filter_sublist ..)) h
/-- a key taken out of the middle -/
theorem drop_mid {bg : Bg} {p : Rn × Int → Bool} {i : Nat} {x : Rn × Int} (h : kNd bg) (hi : bg[i]? = some x) : (((bg.take i).filter p ++ bg.drop i).filter fun y => decide (y.1 ≠ x.1)) = (bg.take i).filter p ++ bg.drop (i + 1) := by
  have hil : i < bg.length := (List.getElem?_eq_some_iff.mp hi).1
  have hx : bg[i] = x := (List.getElem?_eq_some_iff.mp hi).2
  have hd : bg.drop i = x :: bg.drop (i + 1) := by rw [List.drop_eq_getElem_cons hil, hx]
  have hs : bg = bg.take i ++ x :: bg.drop (i + 1) := by rw [← hd, List.take_append_drop]
  unfold kNd at h
  rw [hs, List.map_append, List.map_cons] at h
  have hn := List.nodup_append.mp h
  have hc := List.nodup_cons.mp hn.2.1
  have e1 : (((bg.take i).filter p).filter fun y => decide (y.1 ≠ x.1)) = (bg.take i).filter p := by
    refine List.filter_eq_self.mpr fun y hy => decide_eq_true fun c => ?_
    refine hn.2.2 y.1 (List.mem_map_of_mem (List.mem_filter.mp hy).1) x.1 (List.mem_cons_self ..) c
  have e2 : ((bg.drop (i + 1)).filter fun y => decide (y.1 ≠ x.1)) = bg.drop (i + 1) := by
    refine List.filter_eq_self.mpr fun y hy => decide_eq_true fun c => ?_
    exact hc.1 (by rw [← c]; exact List.mem_map_of_mem hy)
  rw [List.filter_append, e1, hd, List.filter_cons, if_neg (by simp), e2]
end G

/-! ## GForm2 -/
set_option Elab.async false
set_option linter.all false
set_option maxRecDepth 100000
namespace G
open PySem PySem.Spec PyProof.Rows L2
theorem Stm.close {G H G' H' : Hp} {d : Addr} {u : HO} (s : Stm [d] G H G' H') (m : Mu G H d u) (m' : Mu G' H' d u) : St G H G' H' :=
  ⟨s.g, s.i, fun q o _ h => by
    by_cases c : q = d
    · subst c
      have : o = u := Option.some.inj (h.1.symm.trans m.1)
      rw [this]; exact m'
    · exact s.m q o (fun z => c (List.mem_singleton.mp z)) h⟩
abbrev IsRnI : Rp (Rn × Int) := IsT2 IsRn IsI
theorem IsRnI.mono : Mono IsRnI := IsT2.mono IsRn.mono IsI.mono
/-- a dict of runs, each with where it began -/
def MuX (P : Program) (w : World) (G H : Hp) (d : Addr) (bg : Bg) : Prop := ∃ xs, Mu G H d (dxO P w d xs) ∧ DX G xs bg
section
variable {P : Program} {w : World} {K : PySem.W.Frag} {σ : L2.St} {G H : Hp} {Q : VK} {d : Addr} {bg : Bg}
theorem MuX.st {G1 H1 : Hp} (m : MuX P w G H d bg) (s : St G H G1 H1) : MuX P w G1 H1 d bg := by
  obtain ⟨xs, m, h⟩ := m
  exact ⟨xs, s.mu m, h.mono s.g⟩
theorem MuX.to {G1 H1 : Hp} {A : List Addr} (m : MuX P w G H d bg) (s : Stm A G H G1 H1) (n : d ∉ A) : MuX P w G1 H1 d bg := by
  obtain ⟨xs, m, h⟩ := m
  exact ⟨xs, s.m _ _ n m, h.mono s.g⟩
theorem MuX.no (m : MuX P w G H d bg) : G d = none := by obtain ⟨xs, m, h⟩ := m; exact m.2
def DNewGo (P : Program) (w : World) (H : Hp) (Q : VK) : Prop := ∀ p, H p = none → Q (.ref p) (upd H p (dxO P w p []))
theorem x_dnew (h : DNewGo P w H Q) : tDNewX P w σ H Q := h
theorem dnewX (e : Ex G H) (h : ∀ p H1, H p = none → St G H G H1 → MuX P w G H1 p [] → Q (.ref p) H1) : DNewGo P w H Q := by
  intro p hp
  obtain ⟨s, m⟩ := almF (o := dxO P w p []) hp e
  exact h p _ hp s ⟨[], m, .nil⟩
theorem x_bmX {r : V → List V → Hp → VK → Prop} {to : TE} {t : TA} (h : to σ H fun x H1 => (∃ d xs, x = .ref d ∧ H1 d = some (dxO P w d xs)) ∧ t σ H1 fun ys H2 => r x ys H2 Q) : tBMX P w r to t σ H Q := h
theorem tyX (m : MuX P w G H d bg) : ∃ d' xs, V.ref d = .ref d' ∧ H d' = some (dxO P w d' xs) := by obtain ⟨xs, m, _⟩ := m; exact ⟨d, xs, rfl, m.1⟩
theorem x_litems {te : TE} (h : te σ H fun x H1 => rItemsX P w x H1 Q) : tListItemsX P w te σ H Q := h
theorem popG {v : V} {r : Rn} (m : MuX P w G H d bg) (e : Ex G H) (hv : IsRn G v r) (hin : (bg.any fun x => decide (x.1 = r)) = true) (h : ∀ H1 u, Stm [d] G H G H1 → MuX P w G H1 d (bg.filter fun x => decide (x.1 ≠ r)) → Q u H1) : rPopX P w (.ref d) [v] H Q := by
  obtain ⟨xs, m, hx⟩ := m
  obtain ⟨p, x, y, rfl, hp, h1, h2⟩ := hv
  cases h1
  cases h2
  have hs := hx.val r
  rw [hin] at hs
  obtain ⟨u, hu⟩ := Option.isSome_iff_exists.mp hs
  obtain ⟨s, m'⟩ := chgF (o' := dxO P w d (dropX xs r)) m e
  exact ⟨d, xs, p, r, u, rfl, rfl, m.1, hx.kx e, e _ _ hp, hu, h _ _ s ⟨_, m', hx.drop r⟩⟩
theorem setdG {v : V} {r : Rn} {f : Int} (m : MuX P w G H d bg) (e : Ex G H) (hv : IsRn G v r) (hz : bg.length < sizeLine) (h : ∀ H1 u, Stm [d] G H G H1 → MuX P w G H1 d (setd f bg r) → Q u H1) : rSetdX P w (.ref d) [v, .int f] H Q := by
  obtain ⟨xs, m, hx⟩ := m
  obtain ⟨p, x, y, rfl, hp, h1, h2⟩ := hv
  cases h1
  cases h2
  have hs := hx.val r
  refine ⟨d, xs, p, r, _, rfl, rfl, m.1, hx.kx e, e _ _ hp, by rw [hx.len]; exact hz, fun u hu => ?_, fun hu => ?_⟩
  · rw [hu] at hs
    refine h _ _ (Stm.refl e) ⟨xs, m, ?_⟩
    unfold setd
    rw [if_pos (show (bg.any fun x => decide (x.1 = r)) = true from hs.symm)]; exact hx
  · rw [hu] at hs
    obtain ⟨s, m'⟩ := chgF (o' := dxO P w d (xs ++ [(r, p, .int f)])) m e
    refine h _ _ s ⟨_, m', ?_⟩
    unfold setd
    rw [if_neg (by rw [← hs]; exact Bool.false_ne_true)]
    exact hx.snoc hp
theorem itemsP {H' : Hp} : ∀ {ts : List Addr} {xs : Xs} {bg : Bg}, Paired (fun (t : Addr) (q : V × V) => H' t = some (.tup [q.1, q.2])) ts (xs.map prX) → DX G xs bg → (∀ t ∈ ts, G t = H' t) → Paired (IsRnI G) (ts.map V.ref) bg
  | ts, [], bg, ht, hx, h => by
    cases hx
    cases ht
    exact .nil
  | ts, x :: xs, bg, ht, hx, h => by
    cases hx with
    | cons q t =>
      cases ht with
      | cons q2 t2 =>
        rename_i t0 _
        have z := h t0 (List.mem_cons_self ..)
        rw [q2] at z
        exact .cons ⟨t0, _, _, rfl, z, ⟨_, _, _, rfl, q.2.2, rfl, rfl⟩, q.2.1⟩ (itemsP t2 t fun u hu => h u (List.mem_cons_of_mem _ hu))
open Classical in
theorem itemsL (m : MuX P w G H d bg) (e : Ex G H) (h : ∀ G1 H1 p, St G H G1 H1 → IsL IsRnI G1 (.ref p) bg → Q (.ref p) H1) : rItemsX P w (.ref d) H Q := by
  obtain ⟨xs, m, hx⟩ := m
  refine ⟨d, xs, rfl, m.1, fun H' p ts hE hp hts hpt hl ht => ?_⟩
  have hG : ∀ a o, G a = some o → a ≠ p ∧ a ∉ ts := fun a o q => ⟨fun c => (by have z := e _ _ q; rw [c, hp] at z; cases z), fun c => (by have z := e _ _ q; rw [hts a c] at z; cases z)⟩
  let G1 : Hp := fun a => if a = p ∨ a ∈ ts then H' a else G a
  have g1 : Ex G G1 := fun a o q => by
    show (if a = p ∨ a ∈ ts then H' a else G a) = _
    rw [if_neg (by have := hG a o q; rintro (c | c); exact this.1 c; exact this.2 c)]; exact q
  have s : St G H G1 H' := ⟨g1, fun a o q => by
    have q' : (if a = p ∨ a ∈ ts then H' a else G a) = some o := q
    split at q'
    · exact q'
    · exact hE _ _ (e _ _ q'), fun a o _ q => ⟨hE _ _ q.1, by
    show (if a = p ∨ a ∈ ts then H' a else G a) = _
    rw [if_neg]
    · exact q.2
    · have q1 := q.1
      rintro (c | c)
      · rw [c, hp] at q1; cases q1
      · rw [hts a c] at q1; cases q1⟩⟩
  refine h G1 H' p s ⟨p, _, rfl, by show (if p = p ∨ p ∈ ts then H' p else G p) = _; rw [if_pos (.inl rfl)]; exact hl, ?_⟩
  have hx1 := hx.mono g1
  have hmem : ∀ t ∈ ts, G1 t = H' t := fun t ht => by show (if t = p ∨ t ∈ ts then H' t else G t) = _; rw [if_pos (.inr ht)]
  exact itemsP ht hx1 hmem
end
end G

/-! ## GForm3 -/
set_option Elab.async false
set_option linter.all false
set_option maxRecDepth 100000
namespace G
open PySem PySem.Spec PyProof.Rows L2
section
variable {P : Program} {w : World} {K : PySem.W.Frag} {σ : L2.St} {G H : Hp} {Q : VK} {d : Addr} {bg : Bg}
theorem walk_itemsX {o : Obj} {xs : Xs} : Walk (ItX P w d o xs) xs.length (fun H => H d = some (.frz o (dxO P w d xs))) fun i H x H' => ∃ T y, xs[i]? = some y ∧ x = .ref T ∧ H T = none ∧ H' = upd H T (.tup [.ref y.2.1, y.2.2]) :=
  ⟨fun _ _ hi h => ⟨h, hi⟩, fun _ h => ⟨h, Nat.le_refl _⟩, fun _ _ _ _ _ _ y => y⟩
/-- [.. for run, top in begun.items()] -/
theorem lcX {β : Type} {S : Rp β} (mS : Mono S) {td te : TE} {gt : TG} {tt : TT} {vs : List Nat} (hd : ∀ (H : Hp) (R : VK), R (.ref d) H → td σ H R) (m : MuX P w G H d bg) (e : Ex G H) (hz : bg.length < sizeLine) (g : Rn × Int → β)
    (turn : ∀ (y : Rn × Int) (T : Addr) (G1 H1 : Hp) (N0 : Hp → Prop) (N1 : VK), y ∈ bg → Ex G G1 → Ex G1 H1 → IsRnI G1 (.ref T) y → (∀ G2 H2 z, St G1 H1 G2 H2 → S G2 z (g y) → N1 z H2) →
      gt (.ref T) (wipe σ vs) H1 fun σ2 H2 => wipe σ2 vs = wipe σ vs ∧ tt σ2 H2 fun b H3 => if b = true then te σ2 H3 N1 else N0 H3)
    (done : ∀ G1 H1 D, St G H G1 H1 → IsL S G1 (.ref D) (bg.map g) → Q (.ref D) H1) : tLockE (tLc (iItemsX P w td) gt tt te vs) σ H Q := by
  obtain ⟨xs, m, hx⟩ := m
  refine ⟨d, _, m.1, trivial, fun od => ?_⟩
  obtain ⟨s0, m0⟩ := chgF (o' := .frz od (dxO P w d xs)) m e
  refine hd _ _ ⟨d, od, xs, rfl, upd_same, fun D hD => ?_⟩
  have hl : xs.length = bg.length := hx.len
  refine lc_it (walk_itemsX (P := P) (w := w) (d := d) (o := od) (xs := xs)) (fun i H' => ∃ G' ys, St G (upd H d (.frz od (dxO P w d xs))) G' H' ∧ Mu G' H' D (.lst ys) ∧ Paired (S G') ys ((bg.take i).map g)) ?_ ?_ ?_ ?_
  · obtain ⟨s, m1⟩ := almF (o := .lst []) hD s0.i
    exact ⟨G, [], s, m1, .nil⟩
  · rintro i H' _ ⟨G', ys, s, _, _⟩
    exact (s.mu m0).1
  · rintro i x H1 H2 hi ⟨G', ys, s, mD, ps⟩ ⟨T, y, hy, rfl, hT, rfl⟩
    obtain ⟨z, hz1, hz2⟩ := paired_get hx hy
    have hmem : z ∈ bg := List.mem_of_getElem? hz1
    obtain ⟨s1, g1⟩ := alF (o := .tup [.ref y.2.1, y.2.2]) hT s.i
    have hT1 : IsRnI (upd G' T (.tup [.ref y.2.1, y.2.2])) (.ref T) z := ⟨T, _, _, rfl, g1, ⟨_, _, _, rfl, (s.trans s1).g _ _ hz2.2.2, rfl, rfl⟩, hz2.2.1⟩
    refine turn z T _ _ _ _ hmem (s.trans s1).g s1.i hT1 fun G2 H2 v s2 hv => ?_
    have m2 := s2.mu (s1.mu mD)
    refine ⟨ys, m2.1, ?_, ?_⟩
    · rw [paired_len ps, List.length_map, List.length_take]
      exact Nat.lt_of_le_of_lt (Nat.min_le_right _ _) hz
    · obtain ⟨s3, m3⟩ := chgF (o' := .lst (ys ++ [v])) m2 s2.i
      refine ⟨G2, ys ++ [v], Stm.fresh ((s.trans s1).trans s2) s3 (fun a q => by rw [List.mem_singleton.mp q]; exact hD), m3, ?_⟩
      rw [take_more hz1, List.map_append]
      exact paired_snoc hv (paired_imp (fun a b q => mS _ _ a b (s1.trans s2).g q) ps)
  · rintro H' ⟨G', ys, s, mD, ps⟩
    rw [hl, List.take_length] at ps
    have md := s.mu m0
    refine ⟨md.1, ?_⟩
    obtain ⟨s2, g2⟩ := freeze mD s.i
    have hne : d ≠ D := fun c => by rw [← c, upd_same] at hD; cases hD
    have md2 := s2.m _ _ (fun q => hne (List.mem_singleton.mp q)) md
    obtain ⟨s3, m3⟩ := chgF (o' := dxO P w d xs) md2 s2.i
    have sf : St G (upd H d (.frz od (dxO P w d xs))) (upd G' D (.lst ys)) H' := Stm.fresh s s2 fun a q => by rw [List.mem_singleton.mp q]; exact hD
    refine done _ _ D (Stm.close ((s0.trans (St.up sf)).trans s3) m m3) ⟨D, ys, rfl, g2, paired_imp (fun a b q => mS _ _ a b s2.g q) ps⟩
end
end G

/-! ## GKey -/
set_option Elab.async false
set_option linter.all false
set_option maxRecDepth 100000
namespace G
open PySem PySem.Spec PyProof.Rows L2
theorem lt65 {k : Nat} {A : Around} (hr : Room k A) : A.units + 65 < cLine := by have := hr.un; omega
def rSortKE (K : PySem.W.Frag) (f : Addr) (Good : (V → Int × Int) → Hp → V → Prop) : List V → List V → Hp → VK → Prop := fun vs zs H Q => ∃ key, rSortK K f (Good key) key vs zs H Q
theorem cr_sortKE {X : Cx} {K : PySem.W.Frag} {k : Nat} {f : Addr} {fd : FuncData} {ps : List Str} {Good : (V → Int × Int) → Hp → V → Prop} (F : ∀ key, FnOk X.prog X.w X.K X.mg X.base CX0 k f fd ps (SpKey (Good key) key)) (hb : Binds X.K fd ps []) (hr : Room (k + 2) X.A) (mg : ∀ key x H H', Ex H H' → Good key H x → Good key H' x) (hK : X.K = K) :
    CallRK X (.builtin "sorted") [Str.ofString "key"] (rSortKE K f Good) := by
  subst hK
  intro pins s σ H vs zs us ws Q I r rz ⟨key, h⟩
  exact cr_sortK (F key) hb hr (mg key) pins s σ H vs zs us ws Q I r rz h
def lexLe (a b : Int × Int) : Prop := a.1 < b.1 ∨ (a.1 = b.1 ∧ a.2 ≤ b.2)
def GoodR {α : Type} (R : Rp α) (kx : α → Int × Int) (key : V → Int × Int) (H : Hp) (v : V) : Prop := ∃ a, R H v a ∧ key v = kx a
theorem GoodR.mono {α : Type} {R : Rp α} {kx : α → Int × Int} (mR : Mono R) : ∀ key x H H', Ex H H' → GoodR R kx key H x → GoodR R kx key H' x := fun key x H H' e ⟨a, h, k⟩ => ⟨a, mR _ _ _ _ e h, k⟩
theorem lexB_le {a b : Int × Int} (h : SrtO.lexB b a = false) : lexLe a b := by
  have h' : ¬ (b.1 < a.1 ∨ (b.1 = a.1 ∧ b.2 < a.2)) := fun c => by rw [SrtO.lexB_iff.mpr c] at h; cases h
  unfold lexLe
  omega
theorem paired_map {α β : Type} {F : α → β → Prop} {f : α → β} : ∀ {xs : List α} {ys : List β}, Paired F xs ys → (∀ x y, F x y → f x = y) → ys = xs.map f
  | _, _, .nil, _ => rfl
  | _, _, .cons r t, h => by rw [List.map_cons, h _ _ r, ← paired_map t h]
theorem paired_self {α β : Type} {F : α → β → Prop} {f : α → β} : ∀ {xs : List α}, (∀ x ∈ xs, F x (f x)) → Paired F xs (xs.map f)
  | [], _ => .nil
  | x :: xs, h => .cons (h x (List.mem_cons_self ..)) (paired_self fun y hy => h y (List.mem_cons_of_mem _ hy))
theorem paired_all {α β : Type} {F : α → β → Prop} : ∀ {xs : List α} {ys : List β}, Paired F xs ys → ∀ x ∈ xs, ∃ y, F x y
  | _, _, .nil, x, h => by cases h
  | _, _, .cons r t, x, h => by
    rcases List.mem_cons.mp h with rfl | h
    · exact ⟨_, r⟩
    · exact paired_all t x h
open Classical in
theorem sortL {α : Type} [Inhabited α] {R : Rp α} {kx : α → Int × Int} {K : PySem.W.Frag} {f : Addr} {G H : Hp} {v : V} {xs : List α} {Q : VK} (mR : Mono R) (un : ∀ v a b, R G v a → R G v b → a = b) (hx : IsL R G v xs) (e : Ex G H)
    (h : ∀ G1 H1 p zs, St G H G1 H1 → zs.Perm xs → zs.Pairwise (fun x y => lexLe (kx x) (kx y)) → IsL R G1 (.ref p) zs → Q (.ref p) H1) : rSortKE K f (GoodR R kx) [v] [.ref f] H Q := by
  obtain ⟨p0, ws, rfl, hp, hr⟩ := hx
  let fv : V → α := fun v => if h : ∃ a, R G v a then h.choose else default
  have hfv : ∀ v a, R G v a → fv v = a := fun v a ha => by
    have hex : ∃ a, R G v a := ⟨a, ha⟩
    show (if h : ∃ a, R G v a then h.choose else default) = a
    rw [dif_pos hex]
    exact un v _ _ hex.choose_spec ha
  have exs : xs = ws.map fv := paired_map hr hfv
  have hall : ∀ x ∈ ws, R G x (fv x) := fun x hx => by
    obtain ⟨y, hy⟩ := paired_all hr x hx
    rw [hfv x y hy]; exact hy
  refine ⟨fun v => kx (fv v), p0, ws, rfl, rfl, sq (e _ _ hp), fun x hx => ⟨fv x, mR _ _ _ _ e (hall x hx), rfl⟩, fun ys H' p hperm hord hE hpn hpl => ?_⟩
  have s : St G H (upd G p (.lst ys)) H' := ⟨Ex.new (e.none hpn), fun a u q => by
    unfold upd at q
    split at q
    · rename_i c; cases q; rw [c]; exact hpl
    · exact hE _ _ (e _ _ q), fun q u _ m => ⟨hE _ _ m.1, by rw [upd_ne (ne_of_none m.1 hpn)]; exact m.2⟩⟩
  refine h _ _ p (ys.map fv) s ?_ ?_ ⟨p, ys, rfl, upd_same, ?_⟩
  · rw [exs]; exact hperm.map _
  · rw [List.pairwise_map]
    exact hord.imp fun {a b} q => lexB_le q
  · exact paired_self fun x hx => mR _ _ _ _ s.g (hall x (hperm.mem_iff.mp hx))
instance : Inhabited Blk := ⟨⟨0, 0, none, none⟩⟩
theorem optV_inj {a b : Option Int} (h : optV a = optV b) : a = b := by
  cases a <;> cases b <;> simp_all [optV]
theorem blkF_inj {a b : Blk} (h : blkF a = blkF b) : a = b := by
  have h1 := blkF_top a
  have h2 := blkF_left a
  have h3 := blkF_bottom a
  have h4 := blkF_right a
  rw [h] at h1 h2 h3 h4
  have e1 := V.int.inj (Option.some.inj ((blkF_top b).symm.trans h1))
  have e2 := V.int.inj (Option.some.inj ((blkF_left b).symm.trans h2))
  have e3 := optV_inj (Option.some.inj ((blkF_bottom b).symm.trans h3))
  have e4 := optV_inj (Option.some.inj ((blkF_right b).symm.trans h4))
  cases a
  cases b
  simp_all
theorem IsBlk.un {K : PySem.W.Frag} {G : Hp} (v : V) (a b : Blk) (h1 : IsBlk K G v a) (h2 : IsBlk K G v b) : a = b := by
  obtain ⟨p, dx, rfl, g1⟩ := h1
  obtain ⟨q, dy, e, g2⟩ := h2
  cases e
  rw [g1] at g2
  have := Option.some.inj g2
  injection this with _ _ e
  exact blkF_inj e
theorem sortBlk {K : PySem.W.Frag} {f : Addr} {G H : Hp} {v : V} {xs : List Blk} {Q : VK} (hx : IsL (IsBlk K) G v xs) (ap : apart xs = true) (e : Ex G H) (h : ∀ G1 H1 p, St G H G1 H1 → IsL (IsBlk K) G1 (.ref p) (sortB xs) → Q (.ref p) H1) :
    rSortKE K f (GoodR (IsBlk K) fun b => (b.t, b.l)) [v] [.ref f] H Q := by
  refine sortL IsBlk.mono IsBlk.un hx e fun G1 H1 p zs s hp ho hz => ?_
  rw [sort_unique hp (ho.imp fun {a b} q => (leB_iff a b).mpr q) ap] at hz
  exact h G1 H1 p s hz
end G

/-! ## GForm4 -/
set_option Elab.async false
set_option linter.all false
set_option maxRecDepth 100000
namespace G
open PySem PySem.Spec PyProof.Rows L2
theorem formSt_more {bs : List Band} {i : Nat} {b : Band} (h : bs[i]? = some b) : formSt (bs.take (i + 1)) = formStep (formSt (bs.take i)) b := by
  unfold formSt
  rw [take_more h, List.foldl_append]; rfl
theorem st_nd_go : ∀ (bs : List Band) (s : FS), kNd s.begun → kNd (bs.foldl formStep s).begun
  | [], _, h => h
  | b :: bs, s, h => st_nd_go bs _ (setds_nd _ (filter_nd h))
theorem st_nd (bs : List Band) : kNd (formSt bs).begun := st_nd_go bs _ List.nodup_nil
theorem found_go : ∀ (bs : List Band) (s : FS), ∀ x ∈ s.found, x ∈ (bs.foldl formStep s).found
  | [], _, _, h => h
  | b :: bs, s, x, h => found_go bs _ x (List.mem_append_left _ h)
theorem found_mem {bs : List Band} {i : Nat} {x : Blk} (h : x ∈ (formSt (bs.take i)).found) : x ∈ formRaw bs := by
  refine List.mem_append_left _ ?_
  have e : formSt bs = (bs.drop i).foldl formStep (formSt (bs.take i)) := by
    unfold formSt
    rw [← List.foldl_append, List.take_append_drop]
  rw [e]
  exact found_go _ _ x h
theorem setd_len (f : Int) (bg : Bg) (r : Rn) : bg.length ≤ (setd f bg r).length := by
  unfold setd
  split
  · exact Nat.le_refl _
  · rw [List.length_append]; exact Nat.le_add_right _ _
theorem setds_len (f : Int) : ∀ (rs : List Rn) (bg : Bg), bg.length ≤ (rs.foldl (setd f) bg).length
  | [], _ => Nat.le_refl _
  | r :: rs, bg => Nat.le_trans (setd_len f bg r) (setds_len f rs _)
theorem setds_part (f : Int) (rs : List Rn) (bg : Bg) (j : Nat) : ((rs.take j).foldl (setd f) bg).length ≤ (rs.foldl (setd f) bg).length := by
  have e : rs.foldl (setd f) bg = (rs.drop j).foldl (setd f) ((rs.take j).foldl (setd f) bg) := by
    rw [← List.foldl_append, List.take_append_drop]
  rw [e]
  exact setds_len f _ _
theorem part_len (p : Rn × Int → Bool) : ∀ bg : Bg, (bg.filter p).length + (bg.filter fun x => !p x).length = bg.length
  | [] => rfl
  | x :: bg => by
    have ih := part_len p bg
    rw [List.filter_cons, List.filter_cons]
    cases p x <;> simp <;> omega
theorem step_cnt (s : FS) (b : Band) : s.found.length + s.begun.length ≤ (formStep s b).found.length + (formStep s b).begun.length := by
  have h1 := part_len (gone s.behind b.1 b.2.2) s.begun
  have h2 := setds_len b.1 b.2.2 (s.begun.filter (keep s.behind b.1 b.2.2))
  have e : (s.begun.filter fun x => !gone s.behind b.1 b.2.2 x) = s.begun.filter (keep s.behind b.1 b.2.2) := rfl
  rw [e] at h1
  show _ ≤ (s.found ++ _).length + _
  rw [List.length_append, List.length_map]
  show _ ≤ _ + (b.2.2.foldl (setd b.1) (s.begun.filter (keep s.behind b.1 b.2.2))).length
  omega
theorem cnt_go : ∀ (bs : List Band) (s : FS), s.found.length + s.begun.length ≤ (bs.foldl formStep s).found.length + (bs.foldl formStep s).begun.length
  | [], _ => Nat.le_refl _
  | b :: bs, s => Nat.le_trans (step_cnt s b) (cnt_go bs _)
theorem cnt (bs : List Band) (i : Nat) : (formSt (bs.take i)).found.length + (formSt (bs.take i)).begun.length ≤ (formRaw bs).length := by
  have e : formSt bs = (bs.drop i).foldl formStep (formSt (bs.take i)) := by
    unfold formSt
    rw [← List.foldl_append, List.take_append_drop]
  unfold formRaw
  rw [List.length_append, List.length_map, e]
  exact cnt_go _ _
theorem behind_some {bs : List Band} {i : Nat} (h : chained bs = true) (hi : i < bs.length) : ∃ z, (formSt (bs.take i)).behind = some z := by
  cases i with
  | zero => exact ⟨0, rfl⟩
  | succ j =>
    have hj : j < bs.length := by omega
    have hg : bs[j]? = some bs[j] := List.getElem?_eq_getElem hj
    rw [formSt_more hg]
    show ∃ z, (bs[j]).2.1 = some z
    unfold chained at h
    have hm : bs[j] ∈ bs.dropLast := by
      refine List.mem_of_getElem? (i := j) ?_
      rw [List.getElem?_dropLast, if_pos (by omega), hg]
    have := List.all_eq_true.mp h _ hm
    exact Option.isSome_iff_exists.mp this
theorem extL {α : Type} {R : Rp α} {G H : Hp} {l : Addr} {xs : List V} {v : V} {ys : List α} {Q : VK} (m : Mu G H l (.lst xs)) (hy : IsL R G v ys) (e : Ex G H) (hz : xs.length + ys.length ≤ sizeLine) (h : ∀ H1 ws, Stm [l] G H G H1 → Mu G H1 l (.lst (xs ++ ws)) → Paired (R G) ws ys → Q .non H1) : rExtend (.ref l) [v] H Q := by
  obtain ⟨p, ws, rfl, hp, hr⟩ := hy
  obtain ⟨s, m'⟩ := chgF (o' := .lst (xs ++ ws)) m e
  exact ⟨l, p, xs, ws, rfl, rfl, m.1, e _ _ hp, by rw [paired_len hr]; exact hz, h _ ws s m' hr⟩
theorem x_ckw {r : List V → List V → Hp → VK → Prop} {t tk : TA} {σ : L2.St} {H : Hp} {Q : VK} (h : t σ H fun vs H1 => tk σ H1 fun zs H2 => r vs zs H2 Q) : tCKw r t tk σ H Q := h
theorem orP {t u : TT} {σ : L2.St} {H : Hp} {R : Bool → Hp → Prop} {a b : Bool} (ht : ∀ R : Bool → Hp → Prop, R a H → t σ H R) (hu : ∀ R : Bool → Hp → Prop, R b H → u σ H R) (h : R (a || b) H) : tOr t u σ H R := by
  refine x_or (ht _ ?_)
  cases a
  · exact ite_F rfl (hu _ h)
  · exact ite_T rfl h
theorem gone_take {bg : Bg} {p : Rn × Int → Bool} {j : Nat} {x : Rn × Int} (h : bg[j]? = some x) : (bg.take (j + 1)).filter p = (bg.take j).filter p ++ (if p x = true then [x] else []) := by
  rw [take_more h, List.filter_append]
  cases c : p x <;> simp [c]
theorem x_gtup3 {α β γ : Type} {K : PySem.W.Frag} {R : Rp α} {S : Rp β} {T : Rp γ} {G H : Hp} {v : V} {z : α × β × γ} {i j k : Nat} {σ : L2.St} {Q : L2.St → Hp → Prop} (hx : IsT3 R S T G v z) (e : Ex G H) (h : ∀ x y u, R G x z.1 → S G y z.2.1 → T G u z.2.2 → Q (((σ.set i (some x)).set j (some y)).set k (some u)) H) :
    gTup K 3 (gCons (gName i) (gCons (gName j) (gCons (gName k) gNil))) v σ H Q := by
  obtain ⟨p, x, y, u, rfl, hp, hr, hs, ht⟩ := hx
  exact ⟨p, [x, y, u], rfl, sqt (e _ _ hp), rfl, x, [y, u], rfl, y, [u], rfl, u, [], rfl, rfl, h x y u hr hs ht⟩
end G

/-! ## GRaise -/
set_option Elab.async false
set_option linter.all false
set_option maxRecDepth 100000
namespace G
open PySem PySem.Spec PyProof.Rows L2
theorem Stm.mu {G H G' H' : Hp} {q : Addr} {u : HO} (s : Stm [] G H G' H') (h : Mu G H q u) : Mu G' H' q u := s.m q u (fun z => nomatch z) h
theorem passE {X : Cx} {E : XK} (tk : L2N.Takes X (fun cls d _ H => E cls d H)) : Passes (L2N.CX X.prog X.w) X E := fun pins σ H s e s' I c => L2N.passAt tk σ pins H s e s' I c
theorem passN {X : Cx} : Passes (L2N.CX X.prog X.w) X E0 := fun _ _ _ _ _ _ _ h => by
  obtain ⟨_, _, _, _, _, _, _, _, _, _, _, _, z⟩ := h
  exact z.elim
theorem takesN0 {X : Cx} : L2N.Takes X (fun _ _ _ _ => False) := fun _ _ x => by
  obtain ⟨_, _, _, _, _, _, _, _, _, _, _, _, _, _, _, _, z⟩ := x
  exact z.elim
theorem isiG {K : PySem.W.Frag} {H : Hp} {x c : V} {t u : Value} {b : Bool} {Q : VK} (k : ClsV c u) (ty : TyX K H x t) (h : PySem.W.kitOne K t u = some b) (q : Q (.bl b) H) : rIsi K [x, c] H Q := ⟨x, c, t, u, b, rfl, k, ty, h, q⟩
theorem tyL {K : PySem.W.Frag} {H : Hp} {p : Addr} {xs : List V} (h : H p = some (.lst xs)) : TyX K H (.ref p) (.type "list") := .base (.lst h)
theorem IsL.ty {α : Type} {K : PySem.W.Frag} {R : Rp α} {G H : Hp} {v : V} {xs : List α} (h : IsL R G v xs) (e : Ex G H) : TyX K H v (.type "list") := by
  obtain ⟨p, ws, rfl, hp, _⟩ := h
  exact tyL (e _ _ hp)
end G

/-! ## GTup -/
set_option Elab.async false
set_option linter.all false
set_option maxRecDepth 100000
namespace G
open PySem PySem.Spec PyProof.Rows L2
/-- [.. for x in t], t a tuple of any values -/
def LcGoT (K : PySem.W.Frag) (v : V) (gt : TG) (tt : TT) (te : TE) (vs : List Nat) (σ : L2.St) (H1 : Hp) (Q : VK) : Prop :=
  ∃ a, v = .ref a ∧ (∃ xs, SqT K H1 a xs) ∧ ∀ D, H1 D = none → ∃ W : Nat → Nat → Hp → Prop, (∃ m, W 0 m (upd H1 D (.lst []))) ∧ ∀ i m H, W i m H →
  ((Itt K a).stop i H ∧ Q (.ref D) H) ∨ ((Itt K a).go i H ∧ ∃ Nx : Hp → Prop, (∀ H', Nx H' → ∃ m', m' < m ∧ W (i + 1) m' H') ∧ ∀ x H', (Itt K a).yld i H x H' → gt x (wipe σ vs) H' fun σ2 H2 => wipe σ2 vs = wipe σ vs ∧ tt σ2 H2 fun b H3 =>
    if b = true then te σ2 H3 fun y H4 => ∃ acc, H4 D = some (.lst acc) ∧ acc.length < sizeLine ∧ Nx (upd H4 D (.lst (acc ++ [y]))) else Nx H3)
theorem x_lcT {K : PySem.W.Frag} {tl te : TE} {gt : TG} {tt : TT} {vs : List Nat} {σ : L2.St} {H : Hp} {Q : VK} (h : tl σ H fun v H1 => LcGoT K v gt tt te vs σ H1 Q) : tLc (iTup K tl) gt tt te vs σ H Q := h
theorem lcT {β : Type} {K : PySem.W.Frag} {S : Rp β} (mS : Mono S) {G H : Hp} {p : Addr} {xs : List V} {gt : TG} {tt : TT} {te : TE} {vs : List Nat} {σ : L2.St} {Q : VK} (f : V → Bool) (g : V → β)
    (e : Ex G H) (hp : G p = some (.tup xs)) (hz : xs.length < sizeLine)
    (turn : ∀ (x : V) (G1 H1 : Hp) (N0 : Hp → Prop) (N1 : VK), x ∈ xs → St G H G1 H1 → (∀ G2 H2, St G1 H1 G2 H2 → f x = false → N0 H2) → (∀ G2 H2 y, St G1 H1 G2 H2 → S G2 y (g x) → f x = true → N1 y H2) →
      gt x (wipe σ vs) H1 fun σ2 H2 => wipe σ2 vs = wipe σ vs ∧ tt σ2 H2 fun b H3 => if b = true then te σ2 H3 N1 else N0 H3)
    (done : ∀ G1 H1 D, St G H G1 H1 → IsL S G1 (.ref D) ((xs.filter f).map g) → Q (.ref D) H1) : LcGoT K (.ref p) gt tt te vs σ H Q := by
  refine ⟨p, rfl, ⟨xs, sqt (e _ _ hp)⟩, fun D hD => ?_⟩
  refine lc_it (walk_tup (K := K) (a := p) (xs := xs)) (fun i H' => ∃ G' ys, St G H G' H' ∧ Mu G' H' D (.lst ys) ∧ Paired (S G') ys (((xs.take i).filter f).map g)) ?_ ?_ ?_ ?_
  · obtain ⟨s, m⟩ := almF (o := .lst []) hD e
    exact ⟨G, [], s, m, .nil⟩
  · rintro i H' _ ⟨G', ys, s, _, _⟩
    exact sqt (s.i _ _ (s.g _ _ hp))
  · rintro i x H1 H' hi ⟨G', ys, s, m, ps⟩ ⟨rfl, hxi⟩
    have hmem : x ∈ xs := List.mem_of_getElem? hxi
    have hfl : (((xs.take i).filter f).map g).length < sizeLine := by
      refine Nat.lt_of_le_of_lt ?_ hz
      rw [List.length_map]
      refine Nat.le_trans (List.length_filter_le _ _) ?_
      rw [List.length_take]; exact Nat.min_le_right _ _
    refine turn x G' H' _ _ hmem s (fun G2 H2 s2 hf => ?_) (fun G2 H2 y s2 hy hf => ?_)
    · refine ⟨G2, ys, s.trans s2, s2.mu m, ?_⟩
      rw [take_more hxi, List.filter_append, List.map_append]
      have : List.filter f [x] = [] := by simp [hf]
      rw [this, List.map_nil, List.append_nil]
      exact paired_imp (fun a b q => mS _ _ a b s2.g q) ps
    · have m2 := s2.mu m
      refine ⟨ys, m2.1, ?_, ?_⟩
      · rw [paired_len ps]; exact hfl
      · obtain ⟨s3, m3⟩ := chgF (o' := .lst (ys ++ [y])) m2 s2.i
        refine ⟨G2, ys ++ [y], Stm.fresh (s.trans s2) s3 (fun a z => by rw [List.mem_singleton.mp z]; exact hD), m3, ?_⟩
        rw [take_more hxi, List.filter_append, List.map_append]
        have : List.filter f [x] = [x] := by simp [hf]
        rw [this]
        exact paired_snoc hy (paired_imp (fun a b q => mS _ _ a b s2.g q) ps)
  · rintro H' ⟨G', ys, s, m, ps⟩
    rw [List.take_length] at ps
    obtain ⟨s2, g2⟩ := freeze m s.i
    exact done (upd G' D (.lst ys)) H' D (Stm.fresh s s2 (fun a z => by rw [List.mem_singleton.mp z]; exact hD)) ⟨D, ys, rfl, g2, paired_imp (fun a b q => mS _ _ a b s2.g q) ps⟩
theorem lenT {K : PySem.W.Frag} {H : Hp} {p : Addr} {xs : List V} {Q : VK} (hp : H p = some (.tup xs)) (h : Q (.int (xs.length : Nat)) H) : rLenL K [.ref p] H Q := ⟨p, xs, rfl, .inr (sqt hp), h⟩
theorem tyT {K : PySem.W.Frag} {H : Hp} {p : Addr} {xs : List V} (h : H p = some (.tup xs)) : TyX K H (.ref p) (.type "tuple") := .base (.tup h)
/-- a copy of a list -/
def ListGo (K : PySem.W.Frag) (vs : List V) (H : Hp) (Q : VK) : Prop := ∃ p xs, vs = [.ref p] ∧ (SqL K H p xs ∨ SqT K H p xs) ∧ ∀ q, H q = none → Q (.ref q) (upd H q (.lst xs))
theorem listK {X : Cx} {K : PySem.W.Frag} (hK : X.K = K) : CallR X (.type "list") (ListGo K) := by subst hK; exact call_list_of
theorem listG {α : Type} {K : PySem.W.Frag} {R : Rp α} (mR : Mono R) {G H : Hp} {v : V} {xs : List α} {Q : VK} (hx : IsL R G v xs) (e : Ex G H) (h : ∀ G1 H1 p, St G H G1 H1 → IsL R G1 (.ref p) xs → Q (.ref p) H1) : ListGo K [v] H Q := by
  obtain ⟨p, ws, rfl, hp, hr⟩ := hx
  refine ⟨p, ws, rfl, .inl (sq (e _ _ hp)), fun q hq => ?_⟩
  obtain ⟨s, g⟩ := alF (o := .lst ws) hq e
  exact h _ _ q s ⟨q, ws, rfl, g, paired_imp (fun a b z => mR _ _ a b s.g z) hr⟩
end G

/-! ## GSheet -/
set_option Elab.async false
set_option linter.all false
set_option maxRecDepth 100000
namespace G
open PySem PySem.Spec PyProof.Rows L2
abbrev Hs := List (Str × List Blk)
/-- the dict of values, each with its area -/
def HD (K : PySem.W.Frag) (G : Hp) (kvs : List (Key × V)) (hs : Hs) : Prop := Paired (fun kv h => kv.1 = Sum.inr h.1 ∧ IsAr K G kv.2 h.2) kvs hs
def getH (hs : Hs) (s : Str) : Option (List Blk) := (hs.find? fun h => decide (h.1 = s)).map (·.2)
def putH (hs : Hs) (s : Str) (a : List Blk) : Hs := if (hs.any fun h => decide (h.1 = s)) = true then hs.map (fun h => if h.1 = s then (h.1, a) else h) else hs ++ [(s, a)]
section
variable {K : PySem.W.Frag} {G H : Hp} {kvs : List (Key × V)} {hs : Hs}
theorem HD.mono {G' : Hp} (h : HD K G kvs hs) (e : Ex G G') : HD K G' kvs hs := paired_imp (fun a b q => ⟨q.1, IsAr.mono _ _ _ _ e q.2⟩) h
theorem HD.len (h : HD K G kvs hs) : kvs.length = hs.length := paired_len h
theorem HD.val (s : Str) : ∀ {kvs : List (Key × V)} {hs : Hs}, HD K G kvs hs → (∃ v a, valV kvs (Sum.inr s) = some v ∧ getH hs s = some a ∧ IsAr K G v a) ∨ (valV kvs (Sum.inr s) = none ∧ getH hs s = none)
  | _, _, .nil => .inr ⟨rfl, rfl⟩
  | kv :: kvs, h :: hs, .cons q t => by
    by_cases c : h.1 = s
    · refine .inl ⟨kv.2, h.2, valV_pos (by rw [q.1, c]), ?_, q.2⟩
      unfold getH
      rw [List.find?_cons, decide_eq_true c]; rfl
    · have e1 : valV (kv :: kvs) (Sum.inr s) = valV kvs (Sum.inr s) := valV_neg (by rw [q.1]; exact fun z => c (Sum.inr.inj z))
      rw [e1]
      have e2 : ∀ r, getH (h :: r) s = getH r s := fun r => by unfold getH; rw [List.find?_cons, decide_eq_false c]
      rw [e2]
      exact HD.val s t
theorem HD.any (s : Str) : ∀ {kvs : List (Key × V)} {hs : Hs}, HD K G kvs hs → (kvs.any fun kv => decide (kv.1 = Sum.inr s)) = hs.any fun h => decide (h.1 = s)
  | _, _, .nil => rfl
  | _, _, .cons (a := kv) (b := h) q t => by
    rw [List.any_cons, List.any_cons, HD.any s t, q.1]
    congr 1
    by_cases c : h.1 = s
    · rw [decide_eq_true c, decide_eq_true (by rw [c])]
    · rw [decide_eq_false c, decide_eq_false fun z => c (Sum.inr.inj z)]
theorem HD.put {s : Str} {v : V} {a : List Blk} (h : HD K G kvs hs) (ha : IsAr K G v a) : HD K G (putK kvs (Sum.inr s) v) (putH hs s a) := by
  unfold putK putH
  rw [h.any s]
  split
  · rename_i c0
    clear c0
    induction h with
    | nil => exact .nil
    | @cons kv hh _ _ q t ih =>
      refine .cons ?_ ih
      by_cases c : hh.1 = s
      · have c1 : kv.1 = Sum.inr s := by rw [q.1, c]
        dsimp only
        rw [if_pos c1, if_pos c]; exact ⟨q.1, ha⟩
      · have c1 : ¬ kv.1 = Sum.inr s := by rw [q.1]; exact fun z => c (Sum.inr.inj z)
        dsimp only
        rw [if_neg c1, if_neg c]; exact q
  · exact paired_snoc ⟨rfl, ha⟩ h
theorem putK_new {kvs : List (Key × V)} {k : Key} {v : V} (h : (kvs.any fun kv => decide (kv.1 = k)) = false) : putK kvs k v = kvs ++ [(k, v)] := by
  unfold putK; rw [if_neg (by rw [h]; exact Bool.false_ne_true)]
theorem putH_len (hs : Hs) (s : Str) (a : List Blk) : (putH hs s a).length ≤ hs.length + 1 := by
  unfold putH
  split
  · rw [List.length_map]; omega
  · simp
end
/-! ### loops over it -/
section
variable {K : PySem.W.Frag} {σ : L2.St} {G H : Hp} {Q : VK} {D : Ends} {d : Addr} {kvs : List (Key × V)} {hs : Hs}
theorem forI {td : TE} {gt : TG} {tb : TS} (hd : ∀ (H' : Hp) (R : VK), (∀ a, a ≠ d → H' a = H a) → R (.ref d) H' → td σ H' R) (m : Mu G H d (.dK kvs)) (hx : HD K G kvs hs) (e : Ex G H) (Pv : Obj → Nat → L2.St → Hp → Hp → Prop)
    (h0 : ∀ od H1, Stm [d] G H G H1 → Mu G H1 d (.frz od (.dK kvs)) → Pv od 0 σ G H1)
    (hst : ∀ od i σ' G' H', i ≤ hs.length → Pv od i σ' G' H' → Ex G G' ∧ Ex G' H' ∧ Mu G' H' d (.frz od (.dK kvs)))
    (turn : ∀ od i x w T σ1 G1 H1 G2 H2 (D2 : Ends), hs[i]? = some x → kvs[i]? = some (Sum.inr x.1, w) → Pv od i σ1 G1 H1 → St G1 H1 G2 H2 → IsAr K G2 w x.2 → G2 T = some (.tup [.str x.1, w]) → (∀ σ' G' H', Pv od (i + 1) σ' G' H' → D2.nx σ' H') → gt (.ref T) σ1 H2 fun σ2 H3 => tb D2 σ2 H3)
    (done : ∀ od σ' G' H' H2, Pv od hs.length σ' G' H' → Stm [d] G' H' G' H2 → Mu G' H2 d (.dK kvs) → D.nx σ' H2) : tLock (tFor (iItems td) gt tb) D σ H := by
  refine ⟨d, _, m.1, trivial, fun od => ?_⟩
  obtain ⟨s0, m0⟩ := chgF (o' := .frz od (.dK kvs)) m e
  refine hd _ _ (fun a n => upd_ne n) ⟨d, od, kvs, rfl, upd_same, ?_⟩
  have hl : kvs.length = hs.length := hx.len
  refine for_it (walk_items (d := d) (o := od) (kvs := kvs)) (fun i σ' H' => ∃ G', Pv od i σ' G' H') ⟨G, h0 od _ s0 m0⟩ (fun i σ' H' hi ⟨G', h⟩ => ?_) (fun i x σ' H1 H2 hi ⟨G', h⟩ ⟨T, x1, x2, e1, hT, e2, e3, e4⟩ => ?_) (fun σ' H' ⟨G', h⟩ => ?_)
  · exact (hst od i σ' G' H' (by omega) h).2.2.1
  · subst e1 e2
    obtain ⟨q1, q2, q3⟩ := hst od i σ' G' H1 (by omega) h
    have hki : kvs[i]? = some kvs[i] := List.getElem?_eq_getElem hi
    have e3 : (kvs[i]?).map (fun kv => kV kv.1) = some x1 := e3
    have e4 : (kvs[i]?).map Prod.snd = some x2 := e4
    rw [hki] at e3 e4
    cases e3
    cases e4
    obtain ⟨y, hy, ry⟩ := paired_get hx hki
    obtain ⟨s, ht⟩ := alF (o := .tup [kV kvs[i].1, kvs[i].2]) hT q2
    have ek : kvs[i].1 = Sum.inr y.1 := ry.1
    have ht' : upd G' T (.tup [kV kvs[i].1, kvs[i].2]) T = some (.tup [.str y.1, kvs[i].2]) := by rw [ht, ek]; rfl
    refine turn od i y kvs[i].2 T σ' G' H1 _ _ _ hy (by rw [hki, ← ek]) h s (IsAr.mono _ _ _ _ (q1.trans s.g) ry.2) ht' fun σ2 G2 H2 q => ⟨G2, q⟩
  · rw [hl] at h
    obtain ⟨q1, q2, q3⟩ := hst od _ σ' G' H' (Nat.le_refl _) h
    obtain ⟨s3, m3⟩ := chgF (o' := .dK kvs) q3 q2
    exact ⟨q3.1, done od σ' G' H' _ h s3 m3⟩
theorem lcI {β : Type} {S : Rp β} (mS : Mono S) {td te : TE} {gt : TG} {tt : TT} {vs : List Nat} (hd : ∀ (H' : Hp) (R : VK), (∀ a, a ≠ d → H' a = H a) → R (.ref d) H' → td σ H' R) (m : Mu G H d (.dK kvs)) (hx : HD K G kvs hs) (e : Ex G H) (hz : hs.length < sizeLine) (f : Str × List Blk → Bool) (g : Str × List Blk → β)
    (turn : ∀ (x : Str × List Blk) (w : V) (T : Addr) (G1 H1 : Hp) (N0 : Hp → Prop) (N1 : VK), x ∈ hs → Ex G G1 → Ex G1 H1 → IsAr K G1 w x.2 → G1 T = some (.tup [.str x.1, w]) → (∀ G2 H2, St G1 H1 G2 H2 → f x = false → N0 H2) → (∀ G2 H2 z, St G1 H1 G2 H2 → S G2 z (g x) → f x = true → N1 z H2) →
      gt (.ref T) (wipe σ vs) H1 fun σ2 H2 => wipe σ2 vs = wipe σ vs ∧ tt σ2 H2 fun b H3 => if b = true then te σ2 H3 N1 else N0 H3)
    (done : ∀ G1 H1 D, St G H G1 H1 → IsL S G1 (.ref D) ((hs.filter f).map g) → Q (.ref D) H1) : tLockE (tLc (iItems td) gt tt te vs) σ H Q := by
  refine ⟨d, _, m.1, trivial, fun od => ?_⟩
  obtain ⟨s0, m0⟩ := chgF (o' := .frz od (.dK kvs)) m e
  refine hd _ _ (fun a n => upd_ne n) ⟨d, od, kvs, rfl, upd_same, fun D hD => ?_⟩
  have hl : kvs.length = hs.length := hx.len
  refine lc_it (walk_items (d := d) (o := od) (kvs := kvs)) (fun i H' => ∃ G' ys, St G (upd H d (.frz od (.dK kvs))) G' H' ∧ Mu G' H' D (.lst ys) ∧ Paired (S G') ys (((hs.take i).filter f).map g)) ?_ ?_ ?_ ?_
  · obtain ⟨s, m1⟩ := almF (o := .lst []) hD s0.i
    exact ⟨G, [], s, m1, .nil⟩
  · rintro i H' _ ⟨G', ys, s, _, _⟩
    exact (s.mu m0).1
  · rintro i x H1 H2 hi ⟨G', ys, s, mD, ps⟩ ⟨T, x1, x2, e1, hT, e2, e3, e4⟩
    subst e1 e2
    have hki : kvs[i]? = some kvs[i] := List.getElem?_eq_getElem hi
    have e3 : (kvs[i]?).map (fun kv => kV kv.1) = some x1 := e3
    have e4 : (kvs[i]?).map Prod.snd = some x2 := e4
    rw [hki] at e3 e4
    cases e3
    cases e4
    obtain ⟨y, hy, ry⟩ := paired_get hx hki
    have hmem : y ∈ hs := List.mem_of_getElem? hy
    obtain ⟨s1, ht⟩ := alF (o := .tup [kV kvs[i].1, kvs[i].2]) hT s.i
    have ek : kvs[i].1 = Sum.inr y.1 := ry.1
    have ht' : upd G' T (.tup [kV kvs[i].1, kvs[i].2]) T = some (.tup [.str y.1, kvs[i].2]) := by rw [ht, ek]; rfl
    have hfl : (((hs.take i).filter f).map g).length < sizeLine := by
      refine Nat.lt_of_le_of_lt ?_ hz
      rw [List.length_map]
      refine Nat.le_trans (List.length_filter_le _ _) ?_
      rw [List.length_take]; exact Nat.min_le_right _ _
    refine turn y kvs[i].2 T _ _ _ _ hmem (s.trans s1).g s1.i (IsAr.mono _ _ _ _ (s.trans s1).g ry.2) ht' (fun G2 H2 s2 hf => ?_) (fun G2 H2 v s2 hv hf => ?_)
    · refine ⟨G2, ys, (s.trans s1).trans s2, s2.mu (s1.mu mD), ?_⟩
      rw [take_more hy, List.filter_append, List.map_append]
      have : List.filter f [y] = [] := by simp [hf]
      rw [this, List.map_nil, List.append_nil]
      exact paired_imp (fun a b q => mS _ _ a b (s1.trans s2).g q) ps
    · have m2 := s2.mu (s1.mu mD)
      refine ⟨ys, m2.1, ?_, ?_⟩
      · rw [paired_len ps]; exact hfl
      · obtain ⟨s3, m3⟩ := chgF (o' := .lst (ys ++ [v])) m2 s2.i
        refine ⟨G2, ys ++ [v], Stm.fresh ((s.trans s1).trans s2) s3 (fun a q => by rw [List.mem_singleton.mp q]; exact hD), m3, ?_⟩
        rw [take_more hy, List.filter_append, List.map_append]
        have : List.filter f [y] = [y] := by simp [hf]
        rw [this]
        exact paired_snoc hv (paired_imp (fun a b q => mS _ _ a b (s1.trans s2).g q) ps)
  · rintro H' ⟨G', ys, s, mD, ps⟩
    rw [hl, List.take_length] at ps
    have md := s.mu m0
    refine ⟨md.1, ?_⟩
    obtain ⟨s2, g2⟩ := freeze mD s.i
    have hne : d ≠ D := fun c => by rw [← c, upd_same] at hD; cases hD
    have md2 := s2.m _ _ (fun q => hne (List.mem_singleton.mp q)) md
    obtain ⟨s3, m3⟩ := chgF (o' := .dK kvs) md2 s2.i
    have sf : St G (upd H d (.frz od (.dK kvs))) (upd G' D (.lst ys)) H' := Stm.fresh s s2 fun a q => by rw [List.mem_singleton.mp q]; exact hD
    exact done _ _ D (Stm.close ((s0.trans (St.up sf)).trans s3) m m3) ⟨D, ys, rfl, g2, paired_imp (fun a b q => mS _ _ a b s2.g q) ps⟩
/-! ### a sheet -/
def shF (d : Addr) : List (Str × V) := putF "held" (.ref d) []
theorem shF_held (d : Addr) : (shF d).lookup ("held" : Str) = some (.ref d) := by unfold shF; rw [lookup_putF, if_pos rfl]
theorem shF_no (d : Addr) {m : Str} (h : ¬ m = "held") : (shF d).lookup m = none := by unfold shF; rw [lookup_putF, if_neg h]; rfl
/-- a sheet: its object and its dict may change -/
structure MuS (K : PySem.W.Frag) (G H : Hp) (p d : Addr) (kvs : List (Key × V)) : Prop where
  o : ∃ dx, Mu G H p (.ins (He.ga K "Sheet") dx (shF d))
  d : Mu G H d (.dK kvs)
theorem MuS.st {p : Addr} {G1 H1 : Hp} (m : MuS K G H p d kvs) (s : St G H G1 H1) : MuS K G1 H1 p d kvs := ⟨let ⟨dx, h⟩ := m.o; ⟨dx, s.mu h⟩, s.mu m.d⟩
theorem MuS.to {p : Addr} {G1 H1 : Hp} {A : List Addr} (m : MuS K G H p d kvs) (s : Stm A G H G1 H1) (n1 : p ∉ A) (n2 : d ∉ A) : MuS K G1 H1 p d kvs := ⟨let ⟨dx, h⟩ := m.o; ⟨dx, s.m _ _ n1 h⟩, s.m _ _ n2 m.d⟩
theorem MuS.ne {p : Addr} (m : MuS K G H p d kvs) : p ≠ d := fun c => by
  obtain ⟨dx, h⟩ := m.o
  have h1 := h.1
  rw [c, m.d.1] at h1
  cases h1
end
end G

/-! ## GOwn -/
set_option Elab.async false
set_option linter.all false
set_option maxRecDepth 100000
namespace G
open PySem PySem.Spec PyProof.Rows L2
/-- an own def is called by the machine -/
theorem own_call {X : Cx} {CX : CXT} {k : Nat} {f : Addr} {fd : FuncData} {ps : List Str} {sp : Sp} {E : XK} {pins : List (Addr × Obj)} {σ : L2.St} {H : Hp} {s : Shared} {Q : VK} {us : List Value} {vs : List V} {A : Around}
    (F : FnOk X.prog X.w X.K X.mg X.base CX k f fd ps sp) (hb : Binds X.K fd ps []) (hx : Passes CX X E) (sb : L2.Sub X k A) (I : Inv X pins σ H s) (r : Vals vs us) (h : sp vs H Q E) : wpAny (model X.prog X.w) A (call (.ref f) us) (EP X pins σ Q) X.xe s := by
  have e0 : Env0 X.prog X.w X.K X.mg X.base A X.stack s H := by
    have e := I.env0
    exact ⟨by rw [sb.fr]; exact e.frames, e.mod, e.bs, e.bsz, e.funs, e.frf, e.hok, e.bare⟩
  have hl := F.len _ _ _ _ h
  refine wpAny_call (codeAny_mono (F.run A X.stack s H ⟨us, []⟩ us vs _ E sb.room e0 (by
    have := hb s us I.kIn (by simpa using (r.length.symm.trans hl))
    simpa using this) r h) fun r s' hq => ?_)
  cases r with
  | error e => exact hx pins σ H s e s' I hq
  | ok fl =>
    cases fl with
    | ret w => exact I.after hq
    | next => exact False.elim hq
    | brk => exact False.elim hq
    | cont => exact False.elim hq
/-! ### len(o) by an own __len__ -/
def rLenO (C : Addr) (sp : Sp) : List V → Hp → VK → Prop := fun xs H Q => ∃ a dx fs, xs = [.ref a] ∧ H a = some (.ins C dx fs) ∧ sp [.ref a] H (fun v H' => ∃ n : Nat, v = .int n ∧ n < 2 ^ 62 ∧ Q (.int n) H') E0
theorem lenO {X : Cx} {CX : CXT} {k : Nat} {C f : Addr} {fd : FuncData} {ps : List Str} {sp : Sp} (F : FnOk X.prog X.w X.K X.mg X.base CX k f fd ps sp) (hr : Room (k + 1) X.A) (hm : Meth X.K C "__len__" f) (hb : Binds X.K fd ps []) (hx : Passes CX X E0) : CallR X (.builtin "len") (rLenO C sp) := by
  intro pins s σ H xs us Q I r h
  obtain ⟨a, dx, fs, rfl, ha, hsp⟩ := h
  obtain ⟨u, rfl, ru⟩ := vals1 r
  obtain rfl : u = Value.ref a := ru
  obtain ⟨mA, J, _⟩ := ins_get I.hok ha
  obtain ⟨od, J, _⟩ := J.look
  obtain ⟨m, hF⟩ := I.fr
  refine PySem.W.len_K hF I.ok.mod.kin J hm.at_ hm.fn ?_
  have r2 : Vals [V.ref a] [Value.ref a] := .cons rfl .nil
  refine wpAny_mono (own_call F hb hx ⟨hr.in1, rfl⟩ I r2 hsp) (fun v s' hq => ?_) fun _ _ z => z
  obtain ⟨z, H', I', rz, n, rfl, hn, q⟩ := hq
  obtain ⟨t, rfl⟩ := rz
  exact ⟨⟨by omega, by omega⟩, .int n, H', I'.tok _, ⟨_, rfl⟩, q⟩
/-! ### x != y by an own __eq__ -/
section
variable {prog : Program} {w : World} {A : Around} {E : Value → Shared → Prop} {s : Shared} {K : PySem.W.Frag} {x C L f : Addr} {h₀ : Heap} {m : Str → Option Value} {ox : Obj} {od : Option Obj} {b tb : Value}
open PySem.W in
theorem ifBound_B {M : Model} {name : Str} {id T : String} {args : List Value} {Q : Option Value → Shared → Prop} (X : K.In s.heap) (I : InstAt s.heap x ox C od) (hs : findIn K (.ref C) name = some (some (.builtin id))) (S : Slot T name id)
    (h : wpAny M A (call (.builtin id) (.ref x :: args)) (fun v => Q (some v)) E s) : wpAny M A (callSpecialIfBound? (.ref x) name args) Q E s := by
  simp only [callSpecialIfBound?, bindSpecialIfBound?]
  refine wpAny_holding (wpAny_bind (wpAny_bind (wpAny_bind (I.type.here ((looks_findIn X hs).here ?_)))))
  simp only [S.bind]
  refine wpAny_bind (wpAny_askSetting (wpAny_ite ?_))
  have fin : wpAny M A (call (.builtin id) ([.ref x] ++ args) >>= fun v => pure (some v)) Q E s := wpAny_bind (wpAny_mono h (fun v s' h' => wpAny_pure h') fun _ _ h' => h')
  split
  · exact wpAny_bind (wpAny_pure (wpAny_pure fin))
  · exact wpAny_tryCatch (wpAny_bind (wpAny_pure (wpAny_pure fin)))
open PySem.W in
theorem ne_entry {Q : Fin → Shared → Prop} (hu : A.units < cLine) (X : K.In s.heap) (I : InstAt s.heap x ox C od) (he : findIn K (.ref C) "__eq__" = some (some (.ref f))) (hf : isFn K (.ref f) = true)
    (h : wpAny (model prog w) A (call (.ref f) [.ref x, b]) (fun v s' => ∃ c, v = .bool c ∧ Q (.done (.ret (.bool (!c)))) s') E s) : wpAny (model prog w) A (Builtin.«object.__ne__» ⟨[.ref x, b], []⟩) Q E s := by
  unfold Builtin.«object.__ne__»
  repeat (first
    | with_reducible refine wpAny_cRoomFor hu ?_
    | (refine wpAny_bind (m := callSpecialIfBound? (.ref x) (Str.ofString "__eq__") [b])
        (ifBound_K X I he hf (wpAny_mono h (fun r s' hr => by
          obtain ⟨c, rfl, hq⟩ := hr
          repeat (first | exact hq | exact wpAny_pure hq | exact wpAny_truthy_bool hq | (refine wpAny_bind (m := truthy (.bool _)) (wpAny_truthy_bool ?_)) | wp_step)) fun _ _ e => e)))
    | wp_step)
open PySem.W in
theorem ne_try {Q : Value → Shared → Prop} (hu : A.units + 1 < cLine) (X : K.In s.heap) (I : InstAt s.heap x ox C od)
    (hs : findIn K (.ref C) "__ne__" = some (some (.builtin "object.__ne__"))) (ho : subIn K (.ref C) (.type "object") = some true) (he : findIn K (.ref C) "__eq__" = some (some (.ref f))) (hf : isFn K (.ref f) = true)
    (h : wpAny (model prog w) A.in1 (call (.ref f) [.ref x, b]) (fun v s' => ∃ c, v = .bool c ∧ Q (.bool (!c)) s') E s) : wpAny (model prog w) A (tryCompare (.ref x) "__ne__" b) (fun r s' => ∃ v, r = some v ∧ Q v s') E s := by
  have sub : Looks (model prog w) s.heap (isInstance (.ref x) (.type "object")) true := I.type.andThen (looks_subIn X ho)
  simp only [tryCompare]
  refine wpAny_bind (ifBound_B X I hs F.cmp_object.ne (wpAny_call (codeAny_call_builtin F.cmp_object.ne.plain F.cmpEntry_ne
    (@check_slot (model prog w) _ _ s "object.__ne__" "object" "__ne__" (.ref x) [b] [] _ (by decide +kernel) (by decide +kernel) sub (F.cmpArgs_ne _ _) (ne_entry (A := A.in1) hu X I he hf (wpAny_mono h (fun v s' hv => ?_) fun _ _ e => e))))))
  obtain ⟨c, rfl, hq⟩ := hv
  refine ⟨c, rfl, ?_⟩
  first | exact wpAny_pure ⟨_, rfl, hq⟩ | exact wpAny_pure (wpAny_pure ⟨_, rfl, hq⟩)
open PySem.W in
theorem ne_K {Q : Value → Shared → Prop} (hu : A.units + 1 < cLine) (F : Fr h₀ L s.heap m) (X₀ : K.In h₀) (I : InstAt s.heap x ox C od) (hb : Looks (model prog w) s.heap (typeOf b) tb) (hn : notFirst K C tb = true)
    (hs : findIn K (.ref C) "__ne__" = some (some (.builtin "object.__ne__"))) (ho : subIn K (.ref C) (.type "object") = some true) (he : findIn K (.ref C) "__eq__" = some (some (.ref f))) (hf : isFn K (.ref f) = true)
    (h : wpAny (model prog w) A.in1 (call (.ref f) [.ref x, b]) (fun v s' => ∃ c, v = .bool c ∧ Q (.bool (!c)) s') E s) : wpAny (model prog w) A (richCompare .NotEq (.ref x) b) Q E s := by
  have X := X₀.keeps F.keep
  have one := ne_try (A := A) hu X I hs ho he hf h
  unfold richCompare
  simp only [oneThing_ref]
  refine wpAny_holding (wpAny_bind (wpAny_cRoomFor (Nat.lt_of_succ_lt hu) ?_))
  refine wpAny_bind (I.type.here (wpAny_bind (hb.here ?_)))
  split
  · rename_i q
    have e : subIn K tb (.ref C) = some false := by
      rcases Bool.or_eq_true_iff.mp hn with e | e
      · rw [beq_iff_eq.mp e] at q; simp at q
      · exact beq_iff_eq.mp e
    refine wpAny_bind ((looks_subIn X e).here ?_)
    simp only [Bool.false_eq_true, if_false]
    refine wpAny_bind (wpAny_mono one (fun r s' z => ?_) fun _ _ e => e)
    obtain ⟨v, rfl, hq⟩ := z
    exact wpAny_pure hq
  · refine wpAny_bind (wpAny_pure ?_)
    simp only [Bool.false_eq_true, if_false]
    refine wpAny_bind (wpAny_mono one (fun r s' z => ?_) fun _ _ e => e)
    obtain ⟨v, rfl, hq⟩ := z
    exact wpAny_pure hq
end
/-- x == y and x != y of two of one class, its own __eq__ -/
def rCmpO (C : Addr) (sp : Sp) (neg : Bool) : R2 := fun x y H Q => ∃ a b dx dy fs gs, x = .ref a ∧ y = .ref b ∧ H a = some (.ins C dx fs) ∧ H b = some (.ins C dy gs) ∧ sp [x, y] H (fun v H' => ∃ c, v = .bl c ∧ Q (.bl (if neg = true then !c else c)) H') E0
section
variable {X : Cx} {CX : CXT} {k : Nat} {C f : Addr} {fd : FuncData} {ps : List Str} {sp : Sp}
theorem op_neO (F : FnOk X.prog X.w X.K X.mg X.base CX k f fd ps sp) (hr : Room (k + 1) X.A) (hm : Meth X.K C "__eq__" f) (hb : Binds X.K fd ps []) (hx : Passes CX X E0)
    (hn : PySem.W.findIn X.K (.ref C) "__ne__" = some (some (.builtin "object.__ne__")) ∧ PySem.W.subIn X.K (.ref C) (.type "object") = some true) : OpR X (compareOp .NotEq) (rCmpO C sp true) := by
  intro pins s σ H x y v u Q I rx ry h
  obtain ⟨a, b, dx, dy, fs, gs, rfl, rfl, ha, hb', hsp⟩ := h
  cases rx
  cases ry
  obtain ⟨mA, J, _⟩ := ins_get I.hok ha
  obtain ⟨mB, J', _⟩ := ins_get I.hok hb'
  obtain ⟨od, J, _⟩ := J.look
  obtain ⟨od', J', _⟩ := J'.look
  obtain ⟨m, hF⟩ := I.fr
  have hu : X.A.units + 1 < cLine := by have := hr.un; omega
  show wpAny _ _ (richCompare .NotEq (.ref a) (.ref b)) _ _ _
  refine ne_K hu hF I.ok.mod.kin J J'.type (by simp [PySem.W.notFirst]) hn.1 hn.2 hm.at_ hm.fn ?_
  have r2 : Vals [V.ref a, V.ref b] [Value.ref a, Value.ref b] := .cons rfl (.cons rfl .nil)
  refine wpAny_mono (own_call F hb hx ⟨hr.in1, rfl⟩ I r2 hsp) (fun v s' hq => ?_) fun _ _ z => z
  obtain ⟨z, H', I', rz, c, rfl, q⟩ := hq
  cases rz
  exact ⟨c, rfl, .bl (!c), H', I', rfl, q⟩
theorem op_eqO (F : FnOk X.prog X.w X.K X.mg X.base CX k f fd ps sp) (hr : Room k X.A) (hm : Meth X.K C "__eq__" f) (hb : Binds X.K fd ps []) (hx : Passes CX X E0) : OpR X (compareOp .Eq) (rCmpO C sp false) := by
  intro pins s σ H x y v u Q I rx ry h
  obtain ⟨a, b, dx, dy, fs, gs, rfl, rfl, ha, hb', hsp⟩ := h
  cases rx
  cases ry
  obtain ⟨mA, J, _⟩ := ins_get I.hok ha
  obtain ⟨mB, J', _⟩ := ins_get I.hok hb'
  obtain ⟨od, J, _⟩ := J.look
  obtain ⟨od', J', _⟩ := J'.look
  obtain ⟨m, hF⟩ := I.fr
  show wpAny _ _ (richCompare .Eq (.ref a) (.ref b)) _ _ _
  refine PySem.W.cmp_K (op := .Eq) (tb := .ref C) hr.units0 hF I.ok.mod.kin J J'.type (by simp [PySem.W.notFirst]) hm.at_ hm.fn ?_
  have r2 : Vals [V.ref a, V.ref b] [Value.ref a, Value.ref b] := .cons rfl (.cons rfl .nil)
  refine wpAny_mono (own_call F hb hx ⟨hr, rfl⟩ I r2 hsp) (fun v s' hq => ?_) fun _ _ z => z
  obtain ⟨z, H', I', rz, c, rfl, q⟩ := hq
  cases rz
  exact ⟨.bl c, H', I', rfl, q⟩
end
end G

/-! ## GNe -/
set_option Elab.async false
set_option linter.all false
set_option maxRecDepth 100000
namespace G
open PySem PySem.Spec PyProof.Rows L2
/-! ### lists of tuples that hold the same things -/
def SameV (x y : V) : Prop := x = y ∧ (flatB x = true ∨ ∃ a, x = .ref a)
theorem SameV.eqAt {A : Around} {s : Shared} {x y : V} {u v : Value} (h : SameV x y) (rx : RelV x u) (ry : RelV y v) : SeqAt.EqAt A s u v true := by
  obtain ⟨rfl, h | ⟨a, rfl⟩⟩ := h
  · exact eqAt_same rx ry h
  · cases (show u = Value.ref a from rx)
    cases (show v = Value.ref a from ry)
    exact SeqAt.EqAt.same _
def SameT (K : PySem.W.Frag) (H : Hp) (u v : V) : Prop := ∃ a b xs ys, u = .ref a ∧ v = .ref b ∧ SqT K H a xs ∧ SqT K H b ys ∧ Paired SameV xs ys
def rNeT (K : PySem.W.Frag) : R2 := fun x y H Q => ∃ p q us vs, x = .ref p ∧ y = .ref q ∧ SqL K H p us ∧ SqL K H q vs ∧ Paired (SameT K H) us vs ∧ Q (.bl false) H
section
variable {X : Cx} {pins : List (Addr × Obj)} {σ : L2.St} {H : Hp} {s : Shared}
theorem same_items {A : Around} {F : V → V → Prop} (ih : ∀ x y v u, F x y → RelV x v → RelV y u → SeqAt.EqAt A s v u true) {xs ys : List V} (hp : Paired F xs ys) :
    ∀ {us ws : List Value}, Vals xs us → Vals ys ws → ∀ j (h1 : j < us.length) (h2 : j < ws.length), SeqAt.EqAt A s us[j] ws[j] true := by
  induction hp with
  | nil =>
    intro us ws r1 r2 j h1 h2
    cases r1
    exact absurd h1 (Nat.not_lt_zero j)
  | cons h _ k =>
    intro us ws r1 r2 j h1 h2
    cases r1 with
    | cons a1 b1 =>
      cases r2 with
      | cons a2 b2 =>
        cases j with
        | zero => exact ih _ _ _ _ h a1 a2
        | succ j => exact k b1 b2 j (Nat.lt_of_succ_lt_succ h1) (Nat.lt_of_succ_lt_succ h2)
theorem sameT_eqAt (I : Inv X pins σ H s) {A : Around} (hu : A.units < cLine) {x y : V} {u v : Value} (h : SameT X.K H x y) (rx : RelV x u) (ry : RelV y v) : SeqAt.EqAt A s u v true := by
  obtain ⟨a, b, xs, ys, rfl, rfl, ha, hb, hp⟩ := h
  cases (show u = Value.ref a from rx)
  cases (show v = Value.ref b from ry)
  by_cases e : a = b
  · subst e; exact SeqAt.EqAt.same _
  obtain ⟨us, r1, p1, _⟩ := I.tuple ha
  obtain ⟨ws, r2, p2, _⟩ := I.tuple hb
  have hl : us.length = ws.length := by rw [← r1.length, ← r2.length]; exact Paired.length hp
  have q := SeqAt.RcAt.tuples (A := A) (s := s) (items := us.toArray) (items2 := ws.toArray) (e := fun _ => true) p1 p2 hu (fun j h1 h2 => by
    have k := same_items (A := A.in1) (s := s) (fun x y v u f r r' => SameV.eqAt f r r') hp r1 r2 j (by simpa using h1) (by simpa using h2)
    simpa using k)
  have et : ((List.range (min us.toArray.size ws.toArray.size)).all (fun _ => true) && us.toArray.size == ws.toArray.size) = true := by simp [hl]
  rw [et] at q
  exact SeqAt.EqAt.of_refs e q
theorem op_neT (hu : X.A.units + 2 < cLine) : OpR X (compareOp .NotEq) (rNeT X.K) := by
  intro pins s σ H x y v u Q I rx ry h
  obtain ⟨a, b, xs, ys, rfl, rfl, ha, hb, hp, q⟩ := h
  cases (show v = Value.ref a from rx)
  cases (show u = Value.ref b from ry)
  obtain ⟨us, r1, p1, _⟩ := I.list ha
  obtain ⟨ws, r2, p2, _⟩ := I.list hb
  have hl : us.length = ws.length := by rw [← r1.length, ← r2.length]; exact Paired.length hp
  have z := SeqAt.RcNeAt.lists (A := X.A) (s := s) (e := fun _ => true) p1.isList p2.isList (by simpa using hl) (by omega) (fun j h1 h2 => by
    have k := same_items (A := X.A.in1) (s := s) (fun x y v u f r r' => sameT_eqAt I (by show X.A.units + 1 < cLine; omega) f r r') hp r1 r2 j (by simpa using h1) (by simpa using h2)
    simpa using k)
  have et : (!(List.range us.toArray.size).all fun _ => true) = false := by simp
  rw [et] at z
  exact z _ _ _ _ ⟨.bl false, H, I, rfl, q⟩
end
end G

/-! ## GStr -/
set_option Elab.async false
set_option linter.all false
set_option maxRecDepth 100000
namespace G
open PySem PySem.Spec PyProof.Rows L2
def LcGoS (z : Str) (gt : TG) (tt : TT) (te : TE) (vs : List Nat) (σ : L2.St) (H1 : Hp) (Q : VK) : Prop :=
  ∀ D, H1 D = none → ∃ W : Nat → Nat → Hp → Prop, (∃ m, W 0 m (upd H1 D (.lst []))) ∧ ∀ i m H, W i m H →
  ((Its z).stop i H ∧ Q (.ref D) H) ∨ ((Its z).go i H ∧ ∃ Nx : Hp → Prop, (∀ H', Nx H' → ∃ m', m' < m ∧ W (i + 1) m' H') ∧ ∀ x H', (Its z).yld i H x H' → gt x (wipe σ vs) H' fun σ2 H2 => wipe σ2 vs = wipe σ vs ∧ tt σ2 H2 fun b H3 =>
    if b = true then te σ2 H3 fun y H4 => ∃ acc, H4 D = some (.lst acc) ∧ acc.length < sizeLine ∧ Nx (upd H4 D (.lst (acc ++ [y]))) else Nx H3)
theorem x_lcS {tl te : TE} {gt : TG} {tt : TT} {vs : List Nat} {σ : L2.St} {H : Hp} {Q : VK} (h : tl σ H fun v H1 => ∃ x, v = .str x ∧ LcGoS x gt tt te vs σ H1 Q) : tLc (iStr tl) gt tt te vs σ H Q := h
/-- [.. for sign in text] -/
theorem lcS {β : Type} {S : Rp β} (mS : Mono S) {G H : Hp} {z : Str} {gt : TG} {tt : TT} {te : TE} {vs : List Nat} {σ : L2.St} {Q : VK} (g : Nat → β)
    (e : Ex G H) (hz : z.cps.size < sizeLine)
    (turn : ∀ (c : Nat) (G1 H1 : Hp) (N0 : Hp → Prop) (N1 : VK), c ∈ z.cps.toList → St G H G1 H1 → (∀ G2 H2 y, St G1 H1 G2 H2 → S G2 y (g c) → N1 y H2) →
      gt (.str ⟨#[c]⟩) (wipe σ vs) H1 fun σ2 H2 => wipe σ2 vs = wipe σ vs ∧ tt σ2 H2 fun b H3 => if b = true then te σ2 H3 N1 else N0 H3)
    (done : ∀ G1 H1 D, St G H G1 H1 → IsL S G1 (.ref D) (z.cps.toList.map g) → Q (.ref D) H1) : LcGoS z gt tt te vs σ H Q := by
  intro D hD
  have hl : z.cps.toList.length = z.cps.size := Array.length_toList
  refine lc_it (walk_str (z := z)) (fun i H' => ∃ G' ys, St G H G' H' ∧ Mu G' H' D (.lst ys) ∧ Paired (S G') ys ((z.cps.toList.take i).map g)) ?_ (fun _ _ _ _ => trivial) ?_ ?_
  · obtain ⟨s, m⟩ := almF (o := .lst []) hD e
    exact ⟨G, [], s, m, .nil⟩
  · rintro i x H1 H' hi ⟨G', ys, s, m, ps⟩ ⟨rfl, c, hc, rfl⟩
    have hci : z.cps.toList[i]? = some c := by rw [Array.getElem?_toList]; exact hc
    have hmem : c ∈ z.cps.toList := List.mem_of_getElem? hci
    refine turn c G' H' _ _ hmem s (fun G2 H2 y s2 hy => ?_)
    have m2 := s2.mu m
    refine ⟨ys, m2.1, ?_, ?_⟩
    · rw [paired_len ps, List.length_map, List.length_take, hl]
      exact Nat.lt_of_le_of_lt (Nat.min_le_right _ _) hz
    · obtain ⟨s3, m3⟩ := chgF (o' := .lst (ys ++ [y])) m2 s2.i
      refine ⟨G2, ys ++ [y], Stm.fresh (s.trans s2) s3 (fun a z => by rw [List.mem_singleton.mp z]; exact hD), m3, ?_⟩
      rw [take_more hci, List.map_append]
      exact paired_snoc hy (paired_imp (fun a b q => mS _ _ a b s2.g q) ps)
  · rintro H' ⟨G', ys, s, m, ps⟩
    rw [← hl, List.take_length] at ps
    obtain ⟨s2, g2⟩ := freeze m s.i
    exact done (upd G' D (.lst ys)) H' D (Stm.fresh s s2 (fun a z => by rw [List.mem_singleton.mp z]; exact hD)) ⟨D, ys, rfl, g2, paired_imp (fun a b q => mS _ _ a b s2.g q) ps⟩
def rLenS : List V → Hp → VK → Prop := fun xs H Q => ∃ z : Str, xs = [.str z] ∧ z.length ≤ sizeLine ∧ Q (.int z.length) H
theorem lenS {X : Cx} : CallR X (.builtin "len") rLenS := call_len_str
end G

/-! ## KHead -/
set_option Elab.async false
set_option linter.all false
set_option maxRecDepth 100000
set_option maxHeartbeats 0
namespace GT
open PySem PySem.Spec PyProof.Rows L2
def top (i : Nat) : Stmt := PySem.Challenge.pw_cellblocks_k61_sheets_filled.main.body.getD i (.Pass ⟨0, 0, 0, 0⟩)
abbrev s__wall : Stmt := top 0
abbrev s_is_whole : Stmt := top 12
abbrev s_is_count : Stmt := top 13
abbrev s_is_cell : Stmt := top 14
abbrev s_checked_cell : Stmt := top 15
abbrev s_checked_move : Stmt := top 16
abbrev s_letters_of : Stmt := top 19
abbrev s_is_end : Stmt := top 21
abbrev s_is_rows : Stmt := top 22
abbrev s_is_columns : Stmt := top 23
abbrev s_letters_ahead : Stmt := top 24
abbrev s_by_ends : Stmt := top 25
abbrev s_Block___init__ : Stmt := inClass (top 26) 0
abbrev s_Block___eq__ : Stmt := inClass (top 26) 1
abbrev s_Block___str__ : Stmt := inClass (top 26) 2
abbrev s_Block___repr__ : Stmt := inClass (top 26) 3
abbrev s_Block_has : Stmt := inClass (top 26) 4
abbrev s_Block_size : Stmt := inClass (top 26) 5
abbrev s_row_text : Stmt := top 27
abbrev s_column_text : Stmt := top 28
abbrev s_is_at : Stmt := top 30
abbrev s_stretches : Stmt := top 31
abbrev s_cuts_of : Stmt := top 32
abbrev s_with_run : Stmt := top 33
abbrev s_runs_by : Stmt := top 34
abbrev s_columns_at : Stmt := top 35
abbrev s_bands_by : Stmt := top 36
abbrev s_form_of : Stmt := top 37
abbrev s_first_cell : Stmt := top 38
abbrev s_either : Stmt := top 39
abbrev s_one_alone : Stmt := top 40
abbrev s_checked_blocks : Stmt := top 41
abbrev s_checked_area : Stmt := top 42
abbrev s_moved_ends : Stmt := top 43
abbrev s_moved_block : Stmt := top 44
abbrev s_Area___init__ : Stmt := inClass (top 45) 0
abbrev s_Area___eq__ : Stmt := inClass (top 45) 1
abbrev s_Area___len__ : Stmt := inClass (top 45) 2
abbrev s_Area___str__ : Stmt := inClass (top 45) 3
abbrev s_Area___repr__ : Stmt := inClass (top 45) 4
abbrev s_Area_blocks : Stmt := inClass (top 45) 5
abbrev s_Area_firsts : Stmt := inClass (top 45) 6
abbrev s_Area_has : Stmt := inClass (top 45) 7
abbrev s_Area_size : Stmt := inClass (top 45) 8
abbrev s_Area_by : Stmt := inClass (top 45) 9
abbrev s_Area_met : Stmt := inClass (top 45) 10
abbrev s_Area_joined : Stmt := inClass (top 45) 11
abbrev s_Area_without : Stmt := inClass (top 45) 12
abbrev s_Area_others : Stmt := inClass (top 45) 13
abbrev s_Area_is_within : Stmt := inClass (top 45) 14
abbrev s_Area_meets : Stmt := inClass (top 45) 15
abbrev s_Area_turned : Stmt := inClass (top 45) 16
abbrev s_Area_shifted : Stmt := inClass (top 45) 17
abbrev s_Change_checked : Stmt := inClass (top 47) 0
abbrev s_checked_changes : Stmt := top 48
abbrev s_area_behind : Stmt := top 49
abbrev s_check_value : Stmt := top 53
abbrev s_check_sheet : Stmt := top 54
abbrev s_first_of_part : Stmt := top 55
abbrev s_Sheet___init__ : Stmt := inClass (top 56) 0
abbrev s_Sheet___eq__ : Stmt := inClass (top 56) 1
abbrev s_Sheet___len__ : Stmt := inClass (top 56) 2
abbrev s_Sheet_fill : Stmt := inClass (top 56) 3
abbrev s_Sheet_hold : Stmt := inClass (top 56) 4
abbrev s_Sheet_value : Stmt := inClass (top 56) 5
abbrev s_Sheet_where : Stmt := inClass (top 56) 6
abbrev s_Sheet_told : Stmt := inClass (top 56) 7
abbrev s_Sheet_pairs : Stmt := inClass (top 56) 8
abbrev s_Sheet_change : Stmt := inClass (top 56) 9
abbrev s_Sheet_laid : Stmt := inClass (top 56) 10
abbrev s_Sheet_twin : Stmt := inClass (top 56) 11
abbrev s__law_cell_at : Stmt := top 58
abbrev s__law_well : Stmt := top 59
abbrev s__law_draw : Stmt := top 60
abbrev s__law_new : Stmt := top 61
abbrev s__law_in : Stmt := top 62
abbrev s__law_back : Stmt := top 63
abbrev s__law_value : Stmt := top 64
abbrev s__law_with : Stmt := top 65
abbrev s__law_filled : Stmt := top 66
abbrev s__law_runs : Stmt := top 67
abbrev s__law_form : Stmt := top 68
abbrev s__law_grid : Stmt := top 69
abbrev s__law_block_told : Stmt := top 70
abbrev s__law_in_order : Stmt := top 71
abbrev s__law_right : Stmt := top 72
abbrev s__law_block : Stmt := top 73
abbrev s__law_area : Stmt := top 74
abbrev s__law_some : Stmt := top 75
abbrev s_law : Stmt := top 76
def d_is_whole : He.DefD := ⟨("is_whole", none), "is_whole", "is_whole", defArgs s_is_whole, defBody s_is_whole, defScope s_is_whole, [], []⟩
def d_is_count : He.DefD := ⟨("is_count", none), "is_count", "is_count", defArgs s_is_count, defBody s_is_count, defScope s_is_count, [], []⟩
def d_is_cell : He.DefD := ⟨("is_cell", none), "is_cell", "is_cell", defArgs s_is_cell, defBody s_is_cell, defScope s_is_cell, [], []⟩
def d_checked_cell : He.DefD := ⟨("checked_cell", none), "checked_cell", "checked_cell", defArgs s_checked_cell, defBody s_checked_cell, defScope s_checked_cell, [], []⟩
def d_checked_move : He.DefD := ⟨("checked_move", none), "checked_move", "checked_move", defArgs s_checked_move, defBody s_checked_move, defScope s_checked_move, [], []⟩
def d_letters_of : He.DefD := ⟨("letters_of", none), "letters_of", "letters_of", defArgs s_letters_of, defBody s_letters_of, defScope s_letters_of, [], []⟩
def d_is_end : He.DefD := ⟨("is_end", none), "is_end", "is_end", defArgs s_is_end, defBody s_is_end, defScope s_is_end, [], []⟩
def d_is_rows : He.DefD := ⟨("is_rows", none), "is_rows", "is_rows", defArgs s_is_rows, defBody s_is_rows, defScope s_is_rows, [], []⟩
def d_is_columns : He.DefD := ⟨("is_columns", none), "is_columns", "is_columns", defArgs s_is_columns, defBody s_is_columns, defScope s_is_columns, [], []⟩
def d_letters_ahead : He.DefD := ⟨("letters_ahead", none), "letters_ahead", "letters_ahead", defArgs s_letters_ahead, defBody s_letters_ahead, defScope s_letters_ahead, [], []⟩
def d_by_ends : He.DefD := ⟨("by_ends", none), "by_ends", "by_ends", defArgs s_by_ends, defBody s_by_ends, defScope s_by_ends, [], []⟩
def d_Block___init__ : He.DefD := ⟨("Block", some "__init__"), "__init__", "Block.__init__", defArgs s_Block___init__, defBody s_Block___init__, defScope s_Block___init__, [.int 1, .int 1, .non, .non], []⟩
def d_Block___eq__ : He.DefD := ⟨("Block", some "__eq__"), "__eq__", "Block.__eq__", defArgs s_Block___eq__, defBody s_Block___eq__, defScope s_Block___eq__, [], []⟩
def d_Block___str__ : He.DefD := ⟨("Block", some "__str__"), "__str__", "Block.__str__", defArgs s_Block___str__, defBody s_Block___str__, defScope s_Block___str__, [], []⟩
def d_Block___repr__ : He.DefD := ⟨("Block", some "__repr__"), "__repr__", "Block.__repr__", defArgs s_Block___repr__, defBody s_Block___repr__, defScope s_Block___repr__, [], []⟩
def d_Block_has : He.DefD := ⟨("Block", some "has"), "has", "Block.has", defArgs s_Block_has, defBody s_Block_has, defScope s_Block_has, [], []⟩
def d_Block_size : He.DefD := ⟨("Block", some "size"), "size", "Block.size", defArgs s_Block_size, defBody s_Block_size, defScope s_Block_size, [], []⟩
def d_row_text : He.DefD := ⟨("row_text", none), "row_text", "row_text", defArgs s_row_text, defBody s_row_text, defScope s_row_text, [], []⟩
def d_column_text : He.DefD := ⟨("column_text", none), "column_text", "column_text", defArgs s_column_text, defBody s_column_text, defScope s_column_text, [], []⟩
def d_is_at : He.DefD := ⟨("is_at", none), "is_at", "is_at", defArgs s_is_at, defBody s_is_at, defScope s_is_at, [], []⟩
def d_stretches : He.DefD := ⟨("stretches", none), "stretches", "stretches", defArgs s_stretches, defBody s_stretches, defScope s_stretches, [], []⟩
def d_cuts_of : He.DefD := ⟨("cuts_of", none), "cuts_of", "cuts_of", defArgs s_cuts_of, defBody s_cuts_of, defScope s_cuts_of, [], []⟩
def d_with_run : He.DefD := ⟨("with_run", none), "with_run", "with_run", defArgs s_with_run, defBody s_with_run, defScope s_with_run, [], []⟩
def d_runs_by : He.DefD := ⟨("runs_by", none), "runs_by", "runs_by", defArgs s_runs_by, defBody s_runs_by, defScope s_runs_by, [], []⟩
def d_columns_at : He.DefD := ⟨("columns_at", none), "columns_at", "columns_at", defArgs s_columns_at, defBody s_columns_at, defScope s_columns_at, [], []⟩
def d_bands_by : He.DefD := ⟨("bands_by", none), "bands_by", "bands_by", defArgs s_bands_by, defBody s_bands_by, defScope s_bands_by, [], []⟩
def d_form_of : He.DefD := ⟨("form_of", none), "form_of", "form_of", defArgs s_form_of, defBody s_form_of, defScope s_form_of, [], []⟩
def d_first_cell : He.DefD := ⟨("first_cell", none), "first_cell", "first_cell", defArgs s_first_cell, defBody s_first_cell, defScope s_first_cell, [], []⟩
def d_either : He.DefD := ⟨("either", none), "either", "either", defArgs s_either, defBody s_either, defScope s_either, [], []⟩
def d_one_alone : He.DefD := ⟨("one_alone", none), "one_alone", "one_alone", defArgs s_one_alone, defBody s_one_alone, defScope s_one_alone, [], []⟩
def d_checked_blocks : He.DefD := ⟨("checked_blocks", none), "checked_blocks", "checked_blocks", defArgs s_checked_blocks, defBody s_checked_blocks, defScope s_checked_blocks, [], []⟩
def d_checked_area : He.DefD := ⟨("checked_area", none), "checked_area", "checked_area", defArgs s_checked_area, defBody s_checked_area, defScope s_checked_area, [], []⟩
def d_moved_ends : He.DefD := ⟨("moved_ends", none), "moved_ends", "moved_ends", defArgs s_moved_ends, defBody s_moved_ends, defScope s_moved_ends, [], []⟩
def d_moved_block : He.DefD := ⟨("moved_block", none), "moved_block", "moved_block", defArgs s_moved_block, defBody s_moved_block, defScope s_moved_block, [], []⟩
def d_Area___init__ : He.DefD := ⟨("Area", some "__init__"), "__init__", "Area.__init__", defArgs s_Area___init__, defBody s_Area___init__, defScope s_Area___init__, [.non], []⟩
def d_Area___eq__ : He.DefD := ⟨("Area", some "__eq__"), "__eq__", "Area.__eq__", defArgs s_Area___eq__, defBody s_Area___eq__, defScope s_Area___eq__, [], []⟩
def d_Area___len__ : He.DefD := ⟨("Area", some "__len__"), "__len__", "Area.__len__", defArgs s_Area___len__, defBody s_Area___len__, defScope s_Area___len__, [], []⟩
def d_Area___str__ : He.DefD := ⟨("Area", some "__str__"), "__str__", "Area.__str__", defArgs s_Area___str__, defBody s_Area___str__, defScope s_Area___str__, [], []⟩
def d_Area___repr__ : He.DefD := ⟨("Area", some "__repr__"), "__repr__", "Area.__repr__", defArgs s_Area___repr__, defBody s_Area___repr__, defScope s_Area___repr__, [], []⟩
def d_Area_blocks : He.DefD := ⟨("Area", some "blocks"), "blocks", "Area.blocks", defArgs s_Area_blocks, defBody s_Area_blocks, defScope s_Area_blocks, [], []⟩
def d_Area_firsts : He.DefD := ⟨("Area", some "firsts"), "firsts", "Area.firsts", defArgs s_Area_firsts, defBody s_Area_firsts, defScope s_Area_firsts, [], []⟩
def d_Area_has : He.DefD := ⟨("Area", some "has"), "has", "Area.has", defArgs s_Area_has, defBody s_Area_has, defScope s_Area_has, [], []⟩
def d_Area_size : He.DefD := ⟨("Area", some "size"), "size", "Area.size", defArgs s_Area_size, defBody s_Area_size, defScope s_Area_size, [], []⟩
def d_Area_by : He.DefD := ⟨("Area", some "by"), "by", "Area.by", defArgs s_Area_by, defBody s_Area_by, defScope s_Area_by, [], []⟩
def d_Area_met : He.DefD := ⟨("Area", some "met"), "met", "Area.met", defArgs s_Area_met, defBody s_Area_met, defScope s_Area_met, [], []⟩
def d_Area_joined : He.DefD := ⟨("Area", some "joined"), "joined", "Area.joined", defArgs s_Area_joined, defBody s_Area_joined, defScope s_Area_joined, [], []⟩
def d_Area_without : He.DefD := ⟨("Area", some "without"), "without", "Area.without", defArgs s_Area_without, defBody s_Area_without, defScope s_Area_without, [], []⟩
def d_Area_others : He.DefD := ⟨("Area", some "others"), "others", "Area.others", defArgs s_Area_others, defBody s_Area_others, defScope s_Area_others, [], []⟩
def d_Area_is_within : He.DefD := ⟨("Area", some "is_within"), "is_within", "Area.is_within", defArgs s_Area_is_within, defBody s_Area_is_within, defScope s_Area_is_within, [], []⟩
def d_Area_meets : He.DefD := ⟨("Area", some "meets"), "meets", "Area.meets", defArgs s_Area_meets, defBody s_Area_meets, defScope s_Area_meets, [], []⟩
def d_Area_turned : He.DefD := ⟨("Area", some "turned"), "turned", "Area.turned", defArgs s_Area_turned, defBody s_Area_turned, defScope s_Area_turned, [], []⟩
def d_Area_shifted : He.DefD := ⟨("Area", some "shifted"), "shifted", "Area.shifted", defArgs s_Area_shifted, defBody s_Area_shifted, defScope s_Area_shifted, [.int 0, .int 0], []⟩
def d_Change_checked : He.DefD := ⟨("Change", some "checked"), "checked", "Change.checked", defArgs s_Change_checked, defBody s_Change_checked, defScope s_Change_checked, [], []⟩
def d_checked_changes : He.DefD := ⟨("checked_changes", none), "checked_changes", "checked_changes", defArgs s_checked_changes, defBody s_checked_changes, defScope s_checked_changes, [], []⟩
def d_area_behind : He.DefD := ⟨("area_behind", none), "area_behind", "area_behind", defArgs s_area_behind, defBody s_area_behind, defScope s_area_behind, [], []⟩
def d_check_value : He.DefD := ⟨("check_value", none), "check_value", "check_value", defArgs s_check_value, defBody s_check_value, defScope s_check_value, [], []⟩
def d_check_sheet : He.DefD := ⟨("check_sheet", none), "check_sheet", "check_sheet", defArgs s_check_sheet, defBody s_check_sheet, defScope s_check_sheet, [], []⟩
def d_first_of_part : He.DefD := ⟨("first_of_part", none), "first_of_part", "first_of_part", defArgs s_first_of_part, defBody s_first_of_part, defScope s_first_of_part, [], []⟩
def d_Sheet___init__ : He.DefD := ⟨("Sheet", some "__init__"), "__init__", "Sheet.__init__", defArgs s_Sheet___init__, defBody s_Sheet___init__, defScope s_Sheet___init__, [], []⟩
def d_Sheet___eq__ : He.DefD := ⟨("Sheet", some "__eq__"), "__eq__", "Sheet.__eq__", defArgs s_Sheet___eq__, defBody s_Sheet___eq__, defScope s_Sheet___eq__, [], []⟩
def d_Sheet___len__ : He.DefD := ⟨("Sheet", some "__len__"), "__len__", "Sheet.__len__", defArgs s_Sheet___len__, defBody s_Sheet___len__, defScope s_Sheet___len__, [], []⟩
def d_Sheet_fill : He.DefD := ⟨("Sheet", some "fill"), "fill", "Sheet.fill", defArgs s_Sheet_fill, defBody s_Sheet_fill, defScope s_Sheet_fill, [], []⟩
def d_Sheet_hold : He.DefD := ⟨("Sheet", some "hold"), "hold", "Sheet.hold", defArgs s_Sheet_hold, defBody s_Sheet_hold, defScope s_Sheet_hold, [], []⟩
def d_Sheet_value : He.DefD := ⟨("Sheet", some "value"), "value", "Sheet.value", defArgs s_Sheet_value, defBody s_Sheet_value, defScope s_Sheet_value, [], []⟩
def d_Sheet_where : He.DefD := ⟨("Sheet", some "where"), "where", "Sheet.where", defArgs s_Sheet_where, defBody s_Sheet_where, defScope s_Sheet_where, [], []⟩
def d_Sheet_told : He.DefD := ⟨("Sheet", some "told"), "told", "Sheet.told", defArgs s_Sheet_told, defBody s_Sheet_told, defScope s_Sheet_told, [], []⟩
def d_Sheet_pairs : He.DefD := ⟨("Sheet", some "pairs"), "pairs", "Sheet.pairs", defArgs s_Sheet_pairs, defBody s_Sheet_pairs, defScope s_Sheet_pairs, [], []⟩
def d_Sheet_change : He.DefD := ⟨("Sheet", some "change"), "change", "Sheet.change", defArgs s_Sheet_change, defBody s_Sheet_change, defScope s_Sheet_change, [], []⟩
def d_Sheet_laid : He.DefD := ⟨("Sheet", some "laid"), "laid", "Sheet.laid", defArgs s_Sheet_laid, defBody s_Sheet_laid, defScope s_Sheet_laid, [.int 0, .int 0], []⟩
def d_Sheet_twin : He.DefD := ⟨("Sheet", some "twin"), "twin", "Sheet.twin", defArgs s_Sheet_twin, defBody s_Sheet_twin, defScope s_Sheet_twin, [], []⟩
def d__law_cell_at : He.DefD := ⟨("_law_cell_at", none), "_law_cell_at", "_law_cell_at", defArgs s__law_cell_at, defBody s__law_cell_at, defScope s__law_cell_at, [], []⟩
def d__law_well : He.DefD := ⟨("_law_well", none), "_law_well", "_law_well", defArgs s__law_well, defBody s__law_well, defScope s__law_well, [], []⟩
def d__law_draw : He.DefD := ⟨("_law_draw", none), "_law_draw", "_law_draw", defArgs s__law_draw, defBody s__law_draw, defScope s__law_draw, [], []⟩
def d__law_new : He.DefD := ⟨("_law_new", none), "_law_new", "_law_new", defArgs s__law_new, defBody s__law_new, defScope s__law_new, [], []⟩
def d__law_in : He.DefD := ⟨("_law_in", none), "_law_in", "_law_in", defArgs s__law_in, defBody s__law_in, defScope s__law_in, [], []⟩
def d__law_back : He.DefD := ⟨("_law_back", none), "_law_back", "_law_back", defArgs s__law_back, defBody s__law_back, defScope s__law_back, [], []⟩
def d__law_value : He.DefD := ⟨("_law_value", none), "_law_value", "_law_value", defArgs s__law_value, defBody s__law_value, defScope s__law_value, [], []⟩
def d__law_with : He.DefD := ⟨("_law_with", none), "_law_with", "_law_with", defArgs s__law_with, defBody s__law_with, defScope s__law_with, [], []⟩
def d__law_filled : He.DefD := ⟨("_law_filled", none), "_law_filled", "_law_filled", defArgs s__law_filled, defBody s__law_filled, defScope s__law_filled, [], []⟩
def d__law_runs : He.DefD := ⟨("_law_runs", none), "_law_runs", "_law_runs", defArgs s__law_runs, defBody s__law_runs, defScope s__law_runs, [], []⟩
def d__law_form : He.DefD := ⟨("_law_form", none), "_law_form", "_law_form", defArgs s__law_form, defBody s__law_form, defScope s__law_form, [], []⟩
def d__law_grid : He.DefD := ⟨("_law_grid", none), "_law_grid", "_law_grid", defArgs s__law_grid, defBody s__law_grid, defScope s__law_grid, [], []⟩
def d__law_block_told : He.DefD := ⟨("_law_block_told", none), "_law_block_told", "_law_block_told", defArgs s__law_block_told, defBody s__law_block_told, defScope s__law_block_told, [], []⟩
def d__law_in_order : He.DefD := ⟨("_law_in_order", none), "_law_in_order", "_law_in_order", defArgs s__law_in_order, defBody s__law_in_order, defScope s__law_in_order, [], []⟩
def d__law_right : He.DefD := ⟨("_law_right", none), "_law_right", "_law_right", defArgs s__law_right, defBody s__law_right, defScope s__law_right, [], []⟩
def d__law_block : He.DefD := ⟨("_law_block", none), "_law_block", "_law_block", defArgs s__law_block, defBody s__law_block, defScope s__law_block, [], []⟩
def d__law_area : He.DefD := ⟨("_law_area", none), "_law_area", "_law_area", defArgs s__law_area, defBody s__law_area, defScope s__law_area, [], []⟩
def d__law_some : He.DefD := ⟨("_law_some", none), "_law_some", "_law_some", defArgs s__law_some, defBody s__law_some, defScope s__law_some, [], []⟩
def d_law : He.DefD := ⟨("law", none), "law", "law", defArgs s_law, defBody s_law, defScope s_law, [], []⟩
def fn_0 : List He.DefD := [d_is_whole, d_is_count, d_is_cell, d_checked_cell, d_checked_move, d_letters_of, d_is_end, d_is_rows, d_is_columns, d_letters_ahead, d_by_ends, d_Block___init__, d_Block___eq__, d_Block___str__, d_Block___repr__, d_Block_has, d_Block_size, d_row_text, d_column_text, d_is_at, d_stretches, d_cuts_of, d_with_run, d_runs_by, d_columns_at, d_bands_by, d_form_of, d_first_cell, d_either, d_one_alone]
def fn_1 : List He.DefD := [d_checked_blocks, d_checked_area, d_moved_ends, d_moved_block, d_Area___init__, d_Area___eq__, d_Area___len__, d_Area___str__, d_Area___repr__, d_Area_blocks, d_Area_firsts, d_Area_has, d_Area_size, d_Area_by, d_Area_met, d_Area_joined, d_Area_without, d_Area_others, d_Area_is_within, d_Area_meets, d_Area_turned, d_Area_shifted, d_Change_checked, d_checked_changes, d_area_behind, d_check_value, d_check_sheet, d_first_of_part, d_Sheet___init__, d_Sheet___eq__]
def fn_2 : List He.DefD := [d_Sheet___len__, d_Sheet_fill, d_Sheet_hold, d_Sheet_value, d_Sheet_where, d_Sheet_told, d_Sheet_pairs, d_Sheet_change, d_Sheet_laid, d_Sheet_twin, d__law_cell_at, d__law_well, d__law_draw, d__law_new, d__law_in, d__law_back, d__law_value, d__law_with, d__law_filled, d__law_runs, d__law_form, d__law_grid, d__law_block_told, d__law_in_order, d__law_right, d__law_block, d__law_area, d__law_some, d_law]
def fn : List He.DefD := fn_0 ++ (fn_1 ++ (fn_2))
def fa_0 : List He.Fa := [.glo "CellError", .glo "NoCell", .glo "NoColumn", .glo "NoBlock", .glo "NoArea", .glo "NoNumber", .glo "NoChange", .glo "NoValue", .glo "NoSheet", .glo "is_whole", .glo "is_count", .glo "is_cell", .glo "checked_cell", .glo "checked_move", .str "LETTERS" "ABCDEFGHIJKLMNOPQRSTUVWXYZ", .glo "letters_of", .glo "is_end", .glo "is_rows", .glo "is_columns", .glo "letters_ahead", .glo "by_ends", .glo "Block", .glo "row_text", .glo "column_text", .glo "is_at", .glo "stretches", .glo "cuts_of", .glo "with_run", .glo "runs_by", .glo "columns_at"]
def fa_1 : List He.Fa := [.glo "bands_by", .glo "form_of", .glo "first_cell", .glo "either", .glo "one_alone", .glo "checked_blocks", .glo "checked_area", .glo "moved_ends", .glo "moved_block", .glo "Area", .glo "Change", .glo "checked_changes", .glo "area_behind", .str "SIGNS" "abcdefghijklmnopqrstuvwxyz0123456789 ", .int "MOST" 40, .glo "check_value", .glo "check_sheet", .glo "first_of_part", .glo "Sheet", .glo "_law_cell_at", .glo "_law_well", .glo "_law_draw", .glo "_law_new", .glo "_law_in", .glo "_law_back", .glo "_law_value", .glo "_law_with", .glo "_law_filled", .glo "_law_runs", .glo "_law_form"]
def fa_2 : List He.Fa := [.glo "_law_grid", .glo "_law_block_told", .glo "_law_in_order", .glo "_law_right", .glo "_law_block", .glo "_law_area", .glo "_law_some", .glo "law", .free "ValueError", .free "all", .free "any", .free "bool", .free "divmod", .free "enumerate", .free "int", .free "isinstance", .free "len", .free "list", .free "max", .free "range", .free "set", .free "sorted", .free "str", .free "sum", .free "tuple", .free "zip", .exc "CellError", .exc "NoCell", .exc "NoColumn", .exc "NoBlock"]
def fa_3 : List He.Fa := [.exc "NoArea", .exc "NoNumber", .exc "NoChange", .exc "NoValue", .exc "NoSheet", .cls "Block", .mkr "Block", .meth "Block" "__init__", .meth "Block" "__eq__", .meth "Block" "__str__", .meth "Block" "__repr__", .meth "Block" "has", .meth "Block" "size", .noat "Block" "top", .noat "Block" "left", .noat "Block" "bottom", .noat "Block" "right", .cls "Area", .mkr "Area", .meth "Area" "__init__", .meth "Area" "__eq__", .meth "Area" "__len__", .meth "Area" "__str__", .meth "Area" "__repr__", .meth "Area" "blocks", .meth "Area" "firsts", .meth "Area" "has", .meth "Area" "size", .meth "Area" "by", .meth "Area" "met"]
def fa_4 : List He.Fa := [.meth "Area" "joined", .meth "Area" "without", .meth "Area" "others", .meth "Area" "is_within", .meth "Area" "meets", .meth "Area" "turned", .meth "Area" "shifted", .noat "Area" "form", .cls "Change", .meth "Change" "checked", .cls "Sheet", .mkr "Sheet", .meth "Sheet" "__init__", .meth "Sheet" "__eq__", .meth "Sheet" "__len__", .meth "Sheet" "fill", .meth "Sheet" "hold", .meth "Sheet" "value", .meth "Sheet" "where", .meth "Sheet" "told", .meth "Sheet" "pairs", .meth "Sheet" "change", .meth "Sheet" "laid", .meth "Sheet" "twin", .noat "Sheet" "held"]
def fa : List He.Fa := fa_0 ++ (fa_1 ++ (fa_2 ++ (fa_3 ++ (fa_4))))
def kcl_0 : List Str := ["Block", "Area", "Change", "Sheet"]
def kcl : List Str := kcl_0
def kio_0 : List (Str × Str × Bool) := [("Block", "Block", true), ("Block", "Area", false), ("Block", "Change", false), ("Block", "Sheet", false), ("Area", "Block", false), ("Area", "Area", true), ("Area", "Change", false), ("Area", "Sheet", false), ("Change", "Block", false), ("Change", "Area", false), ("Change", "Change", true), ("Change", "Sheet", false), ("Sheet", "Block", false), ("Sheet", "Area", false), ("Sheet", "Change", false), ("Sheet", "Sheet", true)]
def kio : List (Str × Str × Bool) := kio_0
def kib_0 : List (Str × String) := [("Block", "int"), ("Block", "bool"), ("Block", "str"), ("Block", "list"), ("Block", "tuple"), ("Block", "dict"), ("Area", "int"), ("Area", "bool"), ("Area", "str"), ("Area", "list"), ("Area", "tuple"), ("Area", "dict"), ("Change", "int"), ("Change", "bool"), ("Change", "str"), ("Change", "list"), ("Change", "tuple"), ("Change", "dict"), ("Sheet", "int"), ("Sheet", "bool"), ("Sheet", "str"), ("Sheet", "list"), ("Sheet", "tuple"), ("Sheet", "dict")]
def kib : List (Str × String) := kib_0
def kit_0 : List (String × Str) := [("int", "Block"), ("bool", "Block"), ("str", "Block"), ("list", "Block"), ("tuple", "Block"), ("dict", "Block"), ("NoneType", "Block"), ("int", "Area"), ("bool", "Area"), ("str", "Area"), ("list", "Area"), ("tuple", "Area"), ("dict", "Area"), ("NoneType", "Area"), ("int", "Change"), ("bool", "Change"), ("str", "Change"), ("list", "Change"), ("tuple", "Change"), ("dict", "Change"), ("NoneType", "Change"), ("int", "Sheet"), ("bool", "Sheet"), ("str", "Sheet"), ("list", "Sheet"), ("tuple", "Sheet"), ("dict", "Sheet"), ("NoneType", "Sheet")]
def kit : List (String × Str) := kit_0
def kne_0 : List Str := ["Block", "Area", "Sheet"]
def kne : List Str := kne_0
def kex_0 : List Str := ["CellError", "NoCell", "NoColumn", "NoBlock", "NoArea", "NoNumber", "NoChange", "NoValue", "NoSheet"]
def kex : List Str := kex_0
def kee_0 : List (Str × Str × Bool) := [("CellError", "CellError", true), ("CellError", "NoCell", false), ("CellError", "NoColumn", false), ("CellError", "NoBlock", false), ("CellError", "NoArea", false), ("CellError", "NoNumber", false), ("CellError", "NoChange", false), ("CellError", "NoValue", false), ("CellError", "NoSheet", false), ("NoCell", "CellError", true), ("NoCell", "NoCell", true), ("NoCell", "NoColumn", false), ("NoCell", "NoBlock", false), ("NoCell", "NoArea", false), ("NoCell", "NoNumber", false), ("NoCell", "NoChange", false), ("NoCell", "NoValue", false), ("NoCell", "NoSheet", false), ("NoColumn", "CellError", true), ("NoColumn", "NoCell", false), ("NoColumn", "NoColumn", true), ("NoColumn", "NoBlock", false), ("NoColumn", "NoArea", false), ("NoColumn", "NoNumber", false), ("NoColumn", "NoChange", false), ("NoColumn", "NoValue", false), ("NoColumn", "NoSheet", false), ("NoBlock", "CellError", true), ("NoBlock", "NoCell", false), ("NoBlock", "NoColumn", false)]
def kee_1 : List (Str × Str × Bool) := [("NoBlock", "NoBlock", true), ("NoBlock", "NoArea", false), ("NoBlock", "NoNumber", false), ("NoBlock", "NoChange", false), ("NoBlock", "NoValue", false), ("NoBlock", "NoSheet", false), ("NoArea", "CellError", true), ("NoArea", "NoCell", false), ("NoArea", "NoColumn", false), ("NoArea", "NoBlock", false), ("NoArea", "NoArea", true), ("NoArea", "NoNumber", false), ("NoArea", "NoChange", false), ("NoArea", "NoValue", false), ("NoArea", "NoSheet", false), ("NoNumber", "CellError", true), ("NoNumber", "NoCell", false), ("NoNumber", "NoColumn", false), ("NoNumber", "NoBlock", false), ("NoNumber", "NoArea", false), ("NoNumber", "NoNumber", true), ("NoNumber", "NoChange", false), ("NoNumber", "NoValue", false), ("NoNumber", "NoSheet", false), ("NoChange", "CellError", true), ("NoChange", "NoCell", false), ("NoChange", "NoColumn", false), ("NoChange", "NoBlock", false), ("NoChange", "NoArea", false), ("NoChange", "NoNumber", false)]
def kee_2 : List (Str × Str × Bool) := [("NoChange", "NoChange", true), ("NoChange", "NoValue", false), ("NoChange", "NoSheet", false), ("NoValue", "CellError", true), ("NoValue", "NoCell", false), ("NoValue", "NoColumn", false), ("NoValue", "NoBlock", false), ("NoValue", "NoArea", false), ("NoValue", "NoNumber", false), ("NoValue", "NoChange", false), ("NoValue", "NoValue", true), ("NoValue", "NoSheet", false), ("NoSheet", "CellError", true), ("NoSheet", "NoCell", false), ("NoSheet", "NoColumn", false), ("NoSheet", "NoBlock", false), ("NoSheet", "NoArea", false), ("NoSheet", "NoNumber", false), ("NoSheet", "NoChange", false), ("NoSheet", "NoValue", false), ("NoSheet", "NoSheet", true)]
def kee : List (Str × Str × Bool) := kee_0 ++ (kee_1 ++ (kee_2))
def adrs_0 : List Addr := [3, 31, 30, 44, 43, 56, 55, 68, 67, 80, 79, 92, 91, 104, 103, 116, 115, 128, 127, 256, 255, 499, 498, 520, 519, 644, 643, 213, 214, 375, 376, 489, 490, 629, 630, 21, 20, 137, 136, 144, 143, 149, 148, 156, 155, 163, 162, 170, 169, 177, 176, 184, 183, 191, 190, 198, 197, 205, 204, 220]
def adrs_1 : List Addr := [219, 227, 226, 232, 231, 239, 238, 246, 245, 253, 252, 267, 266, 274, 273, 281, 280, 288, 287, 293, 292, 300, 299, 305, 304, 310, 309, 315, 314, 320, 319, 327, 326, 334, 333, 341, 340, 346, 345, 353, 352, 360, 359, 367, 366, 382, 381, 389, 388, 396, 395, 401, 400, 408, 407, 415, 414, 422, 421, 427]
def adrs_2 : List Addr := [426, 432, 431, 439, 438, 446, 445, 453, 452, 460, 459, 467, 466, 474, 473, 481, 480, 488, 487, 496, 495, 517, 516, 529, 528, 536, 535, 541, 540, 548, 547, 555, 554, 569, 568, 576, 575, 583, 582, 590, 589, 597, 596, 602, 601, 609, 608, 616, 615, 621, 620, 628, 627, 634, 633, 641, 640, 655, 654, 662]
def adrs_3 : List Addr := [661, 669, 668, 676, 675, 683, 682, 690, 689, 695, 694, 702, 701, 707, 706, 714, 713, 719, 718, 724, 723, 731, 730, 736, 735, 741, 740, 748, 747, 753, 752, 758, 757, 765, 764]
def adrs : List Addr := adrs_0 ++ (adrs_1 ++ (adrs_2 ++ (adrs_3)))
def extra1 (K : PySem.W.Frag) : Bool := ((kcl.all fun z => decide (PySem.W.findIn K (.ref (He.ga K z)) "__class__" = some (some (.builtin "object.__class__"))) && decide (PySem.W.mroIn K (He.ga K z) (.type "object") = some true)) && (decide (PySem.W.specialIn K (.builtin "object.__class__") "__get__" = some (some (.builtin "getset_descriptor.__get__"))) && decide (PySem.W.takesIn K (.builtin "object.__class__") = some true))) && ((kio.all fun z => decide (PySem.W.kitOne K (.ref (He.ga K z.1)) (.ref (He.ga K z.2.1)) = some z.2.2)) && ((kib.all fun z => decide (PySem.W.kitOne K (.ref (He.ga K z.1)) (.type z.2) = some false)) && kit.all fun z => decide (PySem.W.kitOne K (.type z.1) (.ref (He.ga K z.2)) = some false)))
def extra2 (K : PySem.W.Frag) : Bool := (kne.all fun z => decide (PySem.W.findIn K (.ref (He.ga K z)) "__ne__" = some (some (.builtin "object.__ne__"))) && decide (PySem.W.subIn K (.ref (He.ga K z)) (.type "object") = some true)) && ((kex.all fun z => ((decide (PySem.W.findIn K (.ref (He.ga K z)) "__getattribute__" = some (some (.builtin "BaseException.__getattribute__"))) && decide (PySem.W.findIn K (.ref (He.ga K z)) "__getattr__" = some none)) && (decide (PySem.W.subIn K (.ref (He.ga K z)) (.type "BaseException") = some true) && decide (PySem.W.hasDictIn K (He.ga K z) = true))) && ((decide (PySem.W.findIn K (.ref (He.ga K z)) "__class__" = some (some (.builtin "object.__class__"))) && decide (PySem.W.specialIn K (.builtin "object.__class__") "__get__" = some (some (.builtin "getset_descriptor.__get__")))) && (decide (PySem.W.takesIn K (.builtin "object.__class__") = some true) && decide (PySem.W.mroIn K (He.ga K z) (.type "object") = some true)))) && ((kee.all fun z => decide (PySem.W.kitOne K (.ref (He.ga K z.1)) (.ref (He.ga K z.2.1)) = some z.2.2)) && (kex.all fun z => decide (PySem.W.kitOne K (.ref (He.ga K z)) (.type "ValueError") = some true))))
def extra (K : PySem.W.Frag) : Bool := extra1 K && extra2 K
abbrev Obs : Type := Bool × He.AlD
def obsX (K : PySem.W.Frag) : Obs := (extra K, He.obsD fa fn K)
def valX : Obs := (true, He.valD fn)
def Says (K : PySem.W.Frag) : Prop := obsX K = valX
def obsG (g : Addr → Option Obj) : Obs := obsX (He.frG g adrs)
def hook : PySem.W.Hook where
  α := Obs
  obs := fun s => obsG s.heap.get?
  val := fun _ => valX
  says := fun _ h => ∃ K : PySem.W.Frag, K.In h ∧ Says K
  of := fun _ _ e => ⟨_, He.frG_in, e⟩
  keeps := fun _ _ _ ⟨K, hK, c⟩ k => ⟨K, PySem.W.Frag.In.keeps hK k, c⟩
theorem obsG_eq {g : Addr → Option Obj} {s : Shared} (h : ∀ a, g a = s.heap.get? a) : obsG g = obsG s.heap.get? := by
  have e : g = s.heap.get? := funext h
  rw [e]
def names_0 : List Str := ["_wall", "CellError", "NoCell", "NoColumn", "NoBlock", "NoArea", "NoNumber", "NoChange", "NoValue", "NoSheet", "is_whole", "is_count", "is_cell", "checked_cell", "checked_move", "LETTERS", "letters_of", "is_end", "is_rows", "is_columns", "letters_ahead", "by_ends", "Block", "row_text", "column_text", "is_at", "stretches", "cuts_of", "with_run", "runs_by"]
def names_1 : List Str := ["columns_at", "bands_by", "form_of", "first_cell", "either", "one_alone", "checked_blocks", "checked_area", "moved_ends", "moved_block", "Area", "Change", "checked_changes", "area_behind", "SIGNS", "MOST", "check_value", "check_sheet", "first_of_part", "Sheet", "_law_cell_at", "_law_well", "_law_draw", "_law_new", "_law_in", "_law_back", "_law_value", "_law_with", "_law_filled", "_law_runs"]
def names_2 : List Str := ["_law_form", "_law_grid", "_law_block_told", "_law_in_order", "_law_right", "_law_block", "_law_area", "_law_some"]
def names : List Str := names_0 ++ (names_1 ++ (names_2))
abbrev R : PySem.W.OpenRow := PySem.W.OpenLaw.row PySem.Challenge.rw_cellblocks_k61_sheets_filled
def ob (s : PySem.W.SharedT) : Obs := obsG (HandSHeadRun.getT s)
theorem ob_eq (s : PySem.W.SharedT) : ob s = hook.obs s.abs := obsG_eq (HandSHeadRun.getT_eq s)
theorem run (w : World) : HandSHeadRun.RunEq R (PySem.W.view R.prog [76]) hook ob 6000 names w := by
  intro os
  kernel_rfl
end GT


/-! ## KTxt -/
set_option Elab.async false
set_option linter.all false
set_option maxRecDepth 100000
namespace GT
open PySem PySem.Spec PyProof.Rows L2
/-- what the top leaves, by names -/
structure TX (K : PySem.W.Frag) (mg : Str → Option Value) : Prop where
  ex : ∃ h : Heap, K.In h ∧ h.Ns mainGlobals mg
  c : Says K
section
variable {K : PySem.W.Frag} {mg : Str → Option Value}
theorem TX.fact (T : TX K mg) (i : Nat) {f : He.Fa} (h : fa[i]? = some f) : f.ok K = true := He.SaysD.fact (show He.SaysD fa fn K from congrArg (fun z : Obs => z.2) T.c) i h
theorem TX.def_ (T : TX K mg) (i : Nat) {d : He.DefD} (h : fn[i]? = some d) : ∃ fd, FunD K d.name d.qual d.params d.body d.scope (d.dvs K) (d.kws K) (He.fAd K d.at_) fd := He.SaysD.def_ (show He.SaysD fa fn K from congrArg (fun z : Obs => z.2) T.c) i h
theorem TX.ext (T : TX K mg) : extra K = true := congrArg (fun z : Obs => z.1) T.c
theorem TX.ext1 (T : TX K mg) : extra1 K = true := (He.ba T.ext).1
theorem TX.ext2 (T : TX K mg) : extra2 K = true := (He.ba T.ext).2
theorem TX.kneT (T : TX K mg) (i : Nat) {z : Str} (h : kne[i]? = some z) : PySem.W.findIn K (.ref (He.ga K z)) "__ne__" = some (some (.builtin "object.__ne__")) ∧ PySem.W.subIn K (.ref (He.ga K z)) (.type "object") = some true := by
  have e := T.ext2
  unfold extra2 at e
  have e1 := He.ba (List.all_eq_true.mp (He.ba e).1 z (List.mem_of_getElem? h))
  exact ⟨of_decide_eq_true e1.1, of_decide_eq_true e1.2⟩
theorem TX.kexT (T : TX K mg) (i : Nat) {z : Str} (h : kex[i]? = some z) : ExcC K (He.ga K z) := by
  have e := T.ext2
  unfold extra2 at e
  have e1 := He.ba (List.all_eq_true.mp (He.ba (He.ba e).2).1 z (List.mem_of_getElem? h))
  have a1 := He.ba (He.ba e1.1).1
  have a2 := He.ba (He.ba e1.1).2
  have a3 := He.ba (He.ba e1.2).1
  have a4 := He.ba (He.ba e1.2).2
  exact ⟨of_decide_eq_true a1.1, of_decide_eq_true a1.2, of_decide_eq_true a2.1, of_decide_eq_true a2.2, of_decide_eq_true a3.1, of_decide_eq_true a3.2, of_decide_eq_true a4.1, of_decide_eq_true a4.2⟩
theorem TX.keeT (T : TX K mg) (i : Nat) {z : Str × Str × Bool} (h : kee[i]? = some z) : PySem.W.kitOne K (.ref (He.ga K z.1)) (.ref (He.ga K z.2.1)) = some z.2.2 := by
  have e := T.ext2
  unfold extra2 at e
  exact of_decide_eq_true (List.all_eq_true.mp (He.ba (He.ba (He.ba e).2).2).1 z (List.mem_of_getElem? h))
theorem TX.kev (T : TX K mg) (i : Nat) {z : Str} (h : kex[i]? = some z) : PySem.W.kitOne K (.ref (He.ga K z)) (.type "ValueError") = some true := by
  have e := T.ext2
  unfold extra2 at e
  exact of_decide_eq_true (List.all_eq_true.mp (He.ba (He.ba (He.ba e).2).2).2 z (List.mem_of_getElem? h))
def fdO (K : PySem.W.Frag) (a : Addr) : FuncData := match K.lookup a with
  | some ⟨_, _, .func fd, _⟩ => fd
  | _ => default
theorem fdO_of {x qual : Str} {params : Arguments} {body : List Stmt} {scope : Scope} {dvs : List V} {kws : List (Str × V)} {a : Addr} (h : ∃ fd, FunD K x qual params body scope dvs kws a fd) : FunD K x qual params body scope dvs kws a (fdO K a) := by
  obtain ⟨fd, F⟩ := h
  obtain ⟨oc, od, dV, kV, doc, pm, an, cdv, ct, osl, e, lk, _⟩ := F.ex
  have z : fdO K a = fd := by unfold fdO; rw [lk]
  rw [z]; exact F
theorem TX.kio (T : TX K mg) (i : Nat) {z : Str × Str × Bool} (h : kio[i]? = some z) : PySem.W.kitOne K (.ref (He.ga K z.1)) (.ref (He.ga K z.2.1)) = some z.2.2 := by
  have e := T.ext1
  unfold extra1 at e
  exact of_decide_eq_true (List.all_eq_true.mp (He.ba (He.ba e).2).1 z (List.mem_of_getElem? h))
theorem TX.kib (T : TX K mg) (i : Nat) {z : Str × String} (h : kib[i]? = some z) : PySem.W.kitOne K (.ref (He.ga K z.1)) (.type z.2) = some false := by
  have e := T.ext1
  unfold extra1 at e
  exact of_decide_eq_true (List.all_eq_true.mp (He.ba (He.ba (He.ba e).2).2).1 z (List.mem_of_getElem? h))
theorem TX.kit (T : TX K mg) (i : Nat) {z : String × Str} (h : kit[i]? = some z) : PySem.W.kitOne K (.type z.1) (.ref (He.ga K z.2)) = some false := by
  have e := T.ext1
  unfold extra1 at e
  exact of_decide_eq_true (List.all_eq_true.mp (He.ba (He.ba (He.ba e).2).2).2 z (List.mem_of_getElem? h))
theorem TX.kcl (T : TX K mg) (i : Nat) {z : Str} (h : kcl[i]? = some z) {H : Hp} {a dx : Addr} {fs : List (Str × V)} (c : Cls K (He.ga K z)) (ha : H a = some (.ins (He.ga K z) dx fs)) : TyX K H (.ref a) (.ref (He.ga K z)) := by
  have e := T.ext1
  unfold extra1 at e
  have e1 := (He.ba (He.ba e).1).1
  have e2 := He.ba (He.ba (He.ba e).1).2
  have e3 := He.ba (List.all_eq_true.mp e1 z (List.mem_of_getElem? h))
  exact .base (.ins ha c (of_decide_eq_true e3.1) (of_decide_eq_true e2.1) (of_decide_eq_true e2.2) (of_decide_eq_true e3.2))
theorem g_CellError (T : TX K mg) : mg "CellError" = some (.ref (He.ga K "CellError")) := let ⟨_, X, G⟩ := T.ex; He.glo_ok X G (T.fact 0 (f := .glo "CellError") rfl)
theorem g_NoCell (T : TX K mg) : mg "NoCell" = some (.ref (He.ga K "NoCell")) := let ⟨_, X, G⟩ := T.ex; He.glo_ok X G (T.fact 1 (f := .glo "NoCell") rfl)
theorem g_NoColumn (T : TX K mg) : mg "NoColumn" = some (.ref (He.ga K "NoColumn")) := let ⟨_, X, G⟩ := T.ex; He.glo_ok X G (T.fact 2 (f := .glo "NoColumn") rfl)
theorem g_NoBlock (T : TX K mg) : mg "NoBlock" = some (.ref (He.ga K "NoBlock")) := let ⟨_, X, G⟩ := T.ex; He.glo_ok X G (T.fact 3 (f := .glo "NoBlock") rfl)
theorem g_NoArea (T : TX K mg) : mg "NoArea" = some (.ref (He.ga K "NoArea")) := let ⟨_, X, G⟩ := T.ex; He.glo_ok X G (T.fact 4 (f := .glo "NoArea") rfl)
theorem g_NoNumber (T : TX K mg) : mg "NoNumber" = some (.ref (He.ga K "NoNumber")) := let ⟨_, X, G⟩ := T.ex; He.glo_ok X G (T.fact 5 (f := .glo "NoNumber") rfl)
theorem g_NoChange (T : TX K mg) : mg "NoChange" = some (.ref (He.ga K "NoChange")) := let ⟨_, X, G⟩ := T.ex; He.glo_ok X G (T.fact 6 (f := .glo "NoChange") rfl)
theorem g_NoValue (T : TX K mg) : mg "NoValue" = some (.ref (He.ga K "NoValue")) := let ⟨_, X, G⟩ := T.ex; He.glo_ok X G (T.fact 7 (f := .glo "NoValue") rfl)
theorem g_NoSheet (T : TX K mg) : mg "NoSheet" = some (.ref (He.ga K "NoSheet")) := let ⟨_, X, G⟩ := T.ex; He.glo_ok X G (T.fact 8 (f := .glo "NoSheet") rfl)
theorem g_is_whole (T : TX K mg) : mg "is_whole" = some (.ref (He.ga K "is_whole")) := let ⟨_, X, G⟩ := T.ex; He.glo_ok X G (T.fact 9 (f := .glo "is_whole") rfl)
theorem g_is_count (T : TX K mg) : mg "is_count" = some (.ref (He.ga K "is_count")) := let ⟨_, X, G⟩ := T.ex; He.glo_ok X G (T.fact 10 (f := .glo "is_count") rfl)
theorem g_is_cell (T : TX K mg) : mg "is_cell" = some (.ref (He.ga K "is_cell")) := let ⟨_, X, G⟩ := T.ex; He.glo_ok X G (T.fact 11 (f := .glo "is_cell") rfl)
theorem g_checked_cell (T : TX K mg) : mg "checked_cell" = some (.ref (He.ga K "checked_cell")) := let ⟨_, X, G⟩ := T.ex; He.glo_ok X G (T.fact 12 (f := .glo "checked_cell") rfl)
theorem g_checked_move (T : TX K mg) : mg "checked_move" = some (.ref (He.ga K "checked_move")) := let ⟨_, X, G⟩ := T.ex; He.glo_ok X G (T.fact 13 (f := .glo "checked_move") rfl)
theorem c_LETTERS (T : TX K mg) : ∃ t, mg "LETTERS" = some (.str "ABCDEFGHIJKLMNOPQRSTUVWXYZ" t) := let ⟨_, X, G⟩ := T.ex; He.str_ok X G (T.fact 14 (f := .str "LETTERS" "ABCDEFGHIJKLMNOPQRSTUVWXYZ") rfl)
theorem g_letters_of (T : TX K mg) : mg "letters_of" = some (.ref (He.ga K "letters_of")) := let ⟨_, X, G⟩ := T.ex; He.glo_ok X G (T.fact 15 (f := .glo "letters_of") rfl)
theorem g_is_end (T : TX K mg) : mg "is_end" = some (.ref (He.ga K "is_end")) := let ⟨_, X, G⟩ := T.ex; He.glo_ok X G (T.fact 16 (f := .glo "is_end") rfl)
theorem g_is_rows (T : TX K mg) : mg "is_rows" = some (.ref (He.ga K "is_rows")) := let ⟨_, X, G⟩ := T.ex; He.glo_ok X G (T.fact 17 (f := .glo "is_rows") rfl)
theorem g_is_columns (T : TX K mg) : mg "is_columns" = some (.ref (He.ga K "is_columns")) := let ⟨_, X, G⟩ := T.ex; He.glo_ok X G (T.fact 18 (f := .glo "is_columns") rfl)
theorem g_letters_ahead (T : TX K mg) : mg "letters_ahead" = some (.ref (He.ga K "letters_ahead")) := let ⟨_, X, G⟩ := T.ex; He.glo_ok X G (T.fact 19 (f := .glo "letters_ahead") rfl)
theorem g_by_ends (T : TX K mg) : mg "by_ends" = some (.ref (He.ga K "by_ends")) := let ⟨_, X, G⟩ := T.ex; He.glo_ok X G (T.fact 20 (f := .glo "by_ends") rfl)
theorem g_Block (T : TX K mg) : mg "Block" = some (.ref (He.ga K "Block")) := let ⟨_, X, G⟩ := T.ex; He.glo_ok X G (T.fact 21 (f := .glo "Block") rfl)
theorem g_row_text (T : TX K mg) : mg "row_text" = some (.ref (He.ga K "row_text")) := let ⟨_, X, G⟩ := T.ex; He.glo_ok X G (T.fact 22 (f := .glo "row_text") rfl)
theorem g_column_text (T : TX K mg) : mg "column_text" = some (.ref (He.ga K "column_text")) := let ⟨_, X, G⟩ := T.ex; He.glo_ok X G (T.fact 23 (f := .glo "column_text") rfl)
theorem g_is_at (T : TX K mg) : mg "is_at" = some (.ref (He.ga K "is_at")) := let ⟨_, X, G⟩ := T.ex; He.glo_ok X G (T.fact 24 (f := .glo "is_at") rfl)
theorem g_stretches (T : TX K mg) : mg "stretches" = some (.ref (He.ga K "stretches")) := let ⟨_, X, G⟩ := T.ex; He.glo_ok X G (T.fact 25 (f := .glo "stretches") rfl)
theorem g_cuts_of (T : TX K mg) : mg "cuts_of" = some (.ref (He.ga K "cuts_of")) := let ⟨_, X, G⟩ := T.ex; He.glo_ok X G (T.fact 26 (f := .glo "cuts_of") rfl)
theorem g_with_run (T : TX K mg) : mg "with_run" = some (.ref (He.ga K "with_run")) := let ⟨_, X, G⟩ := T.ex; He.glo_ok X G (T.fact 27 (f := .glo "with_run") rfl)
theorem g_runs_by (T : TX K mg) : mg "runs_by" = some (.ref (He.ga K "runs_by")) := let ⟨_, X, G⟩ := T.ex; He.glo_ok X G (T.fact 28 (f := .glo "runs_by") rfl)
theorem g_columns_at (T : TX K mg) : mg "columns_at" = some (.ref (He.ga K "columns_at")) := let ⟨_, X, G⟩ := T.ex; He.glo_ok X G (T.fact 29 (f := .glo "columns_at") rfl)
theorem g_bands_by (T : TX K mg) : mg "bands_by" = some (.ref (He.ga K "bands_by")) := let ⟨_, X, G⟩ := T.ex; He.glo_ok X G (T.fact 30 (f := .glo "bands_by") rfl)
theorem g_form_of (T : TX K mg) : mg "form_of" = some (.ref (He.ga K "form_of")) := let ⟨_, X, G⟩ := T.ex; He.glo_ok X G (T.fact 31 (f := .glo "form_of") rfl)
theorem g_first_cell (T : TX K mg) : mg "first_cell" = some (.ref (He.ga K "first_cell")) := let ⟨_, X, G⟩ := T.ex; He.glo_ok X G (T.fact 32 (f := .glo "first_cell") rfl)
theorem g_either (T : TX K mg) : mg "either" = some (.ref (He.ga K "either")) := let ⟨_, X, G⟩ := T.ex; He.glo_ok X G (T.fact 33 (f := .glo "either") rfl)
theorem g_one_alone (T : TX K mg) : mg "one_alone" = some (.ref (He.ga K "one_alone")) := let ⟨_, X, G⟩ := T.ex; He.glo_ok X G (T.fact 34 (f := .glo "one_alone") rfl)
theorem g_checked_blocks (T : TX K mg) : mg "checked_blocks" = some (.ref (He.ga K "checked_blocks")) := let ⟨_, X, G⟩ := T.ex; He.glo_ok X G (T.fact 35 (f := .glo "checked_blocks") rfl)
theorem g_checked_area (T : TX K mg) : mg "checked_area" = some (.ref (He.ga K "checked_area")) := let ⟨_, X, G⟩ := T.ex; He.glo_ok X G (T.fact 36 (f := .glo "checked_area") rfl)
theorem g_moved_ends (T : TX K mg) : mg "moved_ends" = some (.ref (He.ga K "moved_ends")) := let ⟨_, X, G⟩ := T.ex; He.glo_ok X G (T.fact 37 (f := .glo "moved_ends") rfl)
theorem g_moved_block (T : TX K mg) : mg "moved_block" = some (.ref (He.ga K "moved_block")) := let ⟨_, X, G⟩ := T.ex; He.glo_ok X G (T.fact 38 (f := .glo "moved_block") rfl)
theorem g_Area (T : TX K mg) : mg "Area" = some (.ref (He.ga K "Area")) := let ⟨_, X, G⟩ := T.ex; He.glo_ok X G (T.fact 39 (f := .glo "Area") rfl)
theorem g_Change (T : TX K mg) : mg "Change" = some (.ref (He.ga K "Change")) := let ⟨_, X, G⟩ := T.ex; He.glo_ok X G (T.fact 40 (f := .glo "Change") rfl)
theorem g_checked_changes (T : TX K mg) : mg "checked_changes" = some (.ref (He.ga K "checked_changes")) := let ⟨_, X, G⟩ := T.ex; He.glo_ok X G (T.fact 41 (f := .glo "checked_changes") rfl)
theorem g_area_behind (T : TX K mg) : mg "area_behind" = some (.ref (He.ga K "area_behind")) := let ⟨_, X, G⟩ := T.ex; He.glo_ok X G (T.fact 42 (f := .glo "area_behind") rfl)
theorem c_SIGNS (T : TX K mg) : ∃ t, mg "SIGNS" = some (.str "abcdefghijklmnopqrstuvwxyz0123456789 " t) := let ⟨_, X, G⟩ := T.ex; He.str_ok X G (T.fact 43 (f := .str "SIGNS" "abcdefghijklmnopqrstuvwxyz0123456789 ") rfl)
theorem c_MOST (T : TX K mg) : ∃ t, mg "MOST" = some (.int 40 t) := let ⟨_, X, G⟩ := T.ex; He.int_ok X G (T.fact 44 (f := .int "MOST" 40) rfl)
theorem g_check_value (T : TX K mg) : mg "check_value" = some (.ref (He.ga K "check_value")) := let ⟨_, X, G⟩ := T.ex; He.glo_ok X G (T.fact 45 (f := .glo "check_value") rfl)
theorem g_check_sheet (T : TX K mg) : mg "check_sheet" = some (.ref (He.ga K "check_sheet")) := let ⟨_, X, G⟩ := T.ex; He.glo_ok X G (T.fact 46 (f := .glo "check_sheet") rfl)
theorem g_first_of_part (T : TX K mg) : mg "first_of_part" = some (.ref (He.ga K "first_of_part")) := let ⟨_, X, G⟩ := T.ex; He.glo_ok X G (T.fact 47 (f := .glo "first_of_part") rfl)
theorem g_Sheet (T : TX K mg) : mg "Sheet" = some (.ref (He.ga K "Sheet")) := let ⟨_, X, G⟩ := T.ex; He.glo_ok X G (T.fact 48 (f := .glo "Sheet") rfl)
theorem g__law_cell_at (T : TX K mg) : mg "_law_cell_at" = some (.ref (He.ga K "_law_cell_at")) := let ⟨_, X, G⟩ := T.ex; He.glo_ok X G (T.fact 49 (f := .glo "_law_cell_at") rfl)
theorem g__law_well (T : TX K mg) : mg "_law_well" = some (.ref (He.ga K "_law_well")) := let ⟨_, X, G⟩ := T.ex; He.glo_ok X G (T.fact 50 (f := .glo "_law_well") rfl)
theorem g__law_draw (T : TX K mg) : mg "_law_draw" = some (.ref (He.ga K "_law_draw")) := let ⟨_, X, G⟩ := T.ex; He.glo_ok X G (T.fact 51 (f := .glo "_law_draw") rfl)
theorem g__law_new (T : TX K mg) : mg "_law_new" = some (.ref (He.ga K "_law_new")) := let ⟨_, X, G⟩ := T.ex; He.glo_ok X G (T.fact 52 (f := .glo "_law_new") rfl)
theorem g__law_in (T : TX K mg) : mg "_law_in" = some (.ref (He.ga K "_law_in")) := let ⟨_, X, G⟩ := T.ex; He.glo_ok X G (T.fact 53 (f := .glo "_law_in") rfl)
theorem g__law_back (T : TX K mg) : mg "_law_back" = some (.ref (He.ga K "_law_back")) := let ⟨_, X, G⟩ := T.ex; He.glo_ok X G (T.fact 54 (f := .glo "_law_back") rfl)
theorem g__law_value (T : TX K mg) : mg "_law_value" = some (.ref (He.ga K "_law_value")) := let ⟨_, X, G⟩ := T.ex; He.glo_ok X G (T.fact 55 (f := .glo "_law_value") rfl)
theorem g__law_with (T : TX K mg) : mg "_law_with" = some (.ref (He.ga K "_law_with")) := let ⟨_, X, G⟩ := T.ex; He.glo_ok X G (T.fact 56 (f := .glo "_law_with") rfl)
theorem g__law_filled (T : TX K mg) : mg "_law_filled" = some (.ref (He.ga K "_law_filled")) := let ⟨_, X, G⟩ := T.ex; He.glo_ok X G (T.fact 57 (f := .glo "_law_filled") rfl)
theorem g__law_runs (T : TX K mg) : mg "_law_runs" = some (.ref (He.ga K "_law_runs")) := let ⟨_, X, G⟩ := T.ex; He.glo_ok X G (T.fact 58 (f := .glo "_law_runs") rfl)
theorem g__law_form (T : TX K mg) : mg "_law_form" = some (.ref (He.ga K "_law_form")) := let ⟨_, X, G⟩ := T.ex; He.glo_ok X G (T.fact 59 (f := .glo "_law_form") rfl)
theorem g__law_grid (T : TX K mg) : mg "_law_grid" = some (.ref (He.ga K "_law_grid")) := let ⟨_, X, G⟩ := T.ex; He.glo_ok X G (T.fact 60 (f := .glo "_law_grid") rfl)
theorem g__law_block_told (T : TX K mg) : mg "_law_block_told" = some (.ref (He.ga K "_law_block_told")) := let ⟨_, X, G⟩ := T.ex; He.glo_ok X G (T.fact 61 (f := .glo "_law_block_told") rfl)
theorem g__law_in_order (T : TX K mg) : mg "_law_in_order" = some (.ref (He.ga K "_law_in_order")) := let ⟨_, X, G⟩ := T.ex; He.glo_ok X G (T.fact 62 (f := .glo "_law_in_order") rfl)
theorem g__law_right (T : TX K mg) : mg "_law_right" = some (.ref (He.ga K "_law_right")) := let ⟨_, X, G⟩ := T.ex; He.glo_ok X G (T.fact 63 (f := .glo "_law_right") rfl)
theorem g__law_block (T : TX K mg) : mg "_law_block" = some (.ref (He.ga K "_law_block")) := let ⟨_, X, G⟩ := T.ex; He.glo_ok X G (T.fact 64 (f := .glo "_law_block") rfl)
theorem g__law_area (T : TX K mg) : mg "_law_area" = some (.ref (He.ga K "_law_area")) := let ⟨_, X, G⟩ := T.ex; He.glo_ok X G (T.fact 65 (f := .glo "_law_area") rfl)
theorem g__law_some (T : TX K mg) : mg "_law_some" = some (.ref (He.ga K "_law_some")) := let ⟨_, X, G⟩ := T.ex; He.glo_ok X G (T.fact 66 (f := .glo "_law_some") rfl)
theorem g_law (T : TX K mg) : mg "law" = some (.ref (He.ga K "law")) := let ⟨_, X, G⟩ := T.ex; He.glo_ok X G (T.fact 67 (f := .glo "law") rfl)
theorem z_ValueError (T : TX K mg) : mg "ValueError" = none := let ⟨_, X, G⟩ := T.ex; He.free_ok X G (T.fact 68 (f := .free "ValueError") rfl)
theorem z_all (T : TX K mg) : mg "all" = none := let ⟨_, X, G⟩ := T.ex; He.free_ok X G (T.fact 69 (f := .free "all") rfl)
theorem z_any (T : TX K mg) : mg "any" = none := let ⟨_, X, G⟩ := T.ex; He.free_ok X G (T.fact 70 (f := .free "any") rfl)
theorem z_bool (T : TX K mg) : mg "bool" = none := let ⟨_, X, G⟩ := T.ex; He.free_ok X G (T.fact 71 (f := .free "bool") rfl)
theorem z_divmod (T : TX K mg) : mg "divmod" = none := let ⟨_, X, G⟩ := T.ex; He.free_ok X G (T.fact 72 (f := .free "divmod") rfl)
theorem z_enumerate (T : TX K mg) : mg "enumerate" = none := let ⟨_, X, G⟩ := T.ex; He.free_ok X G (T.fact 73 (f := .free "enumerate") rfl)
theorem z_int (T : TX K mg) : mg "int" = none := let ⟨_, X, G⟩ := T.ex; He.free_ok X G (T.fact 74 (f := .free "int") rfl)
theorem z_isinstance (T : TX K mg) : mg "isinstance" = none := let ⟨_, X, G⟩ := T.ex; He.free_ok X G (T.fact 75 (f := .free "isinstance") rfl)
theorem z_len (T : TX K mg) : mg "len" = none := let ⟨_, X, G⟩ := T.ex; He.free_ok X G (T.fact 76 (f := .free "len") rfl)
theorem z_list (T : TX K mg) : mg "list" = none := let ⟨_, X, G⟩ := T.ex; He.free_ok X G (T.fact 77 (f := .free "list") rfl)
theorem z_max (T : TX K mg) : mg "max" = none := let ⟨_, X, G⟩ := T.ex; He.free_ok X G (T.fact 78 (f := .free "max") rfl)
theorem z_range (T : TX K mg) : mg "range" = none := let ⟨_, X, G⟩ := T.ex; He.free_ok X G (T.fact 79 (f := .free "range") rfl)
theorem z_set (T : TX K mg) : mg "set" = none := let ⟨_, X, G⟩ := T.ex; He.free_ok X G (T.fact 80 (f := .free "set") rfl)
theorem z_sorted (T : TX K mg) : mg "sorted" = none := let ⟨_, X, G⟩ := T.ex; He.free_ok X G (T.fact 81 (f := .free "sorted") rfl)
theorem z_str (T : TX K mg) : mg "str" = none := let ⟨_, X, G⟩ := T.ex; He.free_ok X G (T.fact 82 (f := .free "str") rfl)
theorem z_sum (T : TX K mg) : mg "sum" = none := let ⟨_, X, G⟩ := T.ex; He.free_ok X G (T.fact 83 (f := .free "sum") rfl)
theorem z_tuple (T : TX K mg) : mg "tuple" = none := let ⟨_, X, G⟩ := T.ex; He.free_ok X G (T.fact 84 (f := .free "tuple") rfl)
theorem z_zip (T : TX K mg) : mg "zip" = none := let ⟨_, X, G⟩ := T.ex; He.free_ok X G (T.fact 85 (f := .free "zip") rfl)
theorem e_CellError (T : TX K mg) : PySem.W.excIn K (He.ga K "CellError") He.veBase "ValueError.__new__" = true ∧ PySem.W.keepIn K (.ref (He.ga K "CellError")) = true ∧ PySem.W.subIn K (.ref (He.ga K "CellError")) (.type "BaseException") = some true ∧ PySem.W.typeIn K (.ref (He.ga K "CellError")) = some (.type "type") := He.exc_ok (T.fact 86 (f := .exc "CellError") rfl)
theorem e_NoCell (T : TX K mg) : PySem.W.excIn K (He.ga K "NoCell") He.veBase "ValueError.__new__" = true ∧ PySem.W.keepIn K (.ref (He.ga K "NoCell")) = true ∧ PySem.W.subIn K (.ref (He.ga K "NoCell")) (.type "BaseException") = some true ∧ PySem.W.typeIn K (.ref (He.ga K "NoCell")) = some (.type "type") := He.exc_ok (T.fact 87 (f := .exc "NoCell") rfl)
theorem e_NoColumn (T : TX K mg) : PySem.W.excIn K (He.ga K "NoColumn") He.veBase "ValueError.__new__" = true ∧ PySem.W.keepIn K (.ref (He.ga K "NoColumn")) = true ∧ PySem.W.subIn K (.ref (He.ga K "NoColumn")) (.type "BaseException") = some true ∧ PySem.W.typeIn K (.ref (He.ga K "NoColumn")) = some (.type "type") := He.exc_ok (T.fact 88 (f := .exc "NoColumn") rfl)
theorem e_NoBlock (T : TX K mg) : PySem.W.excIn K (He.ga K "NoBlock") He.veBase "ValueError.__new__" = true ∧ PySem.W.keepIn K (.ref (He.ga K "NoBlock")) = true ∧ PySem.W.subIn K (.ref (He.ga K "NoBlock")) (.type "BaseException") = some true ∧ PySem.W.typeIn K (.ref (He.ga K "NoBlock")) = some (.type "type") := He.exc_ok (T.fact 89 (f := .exc "NoBlock") rfl)
theorem e_NoArea (T : TX K mg) : PySem.W.excIn K (He.ga K "NoArea") He.veBase "ValueError.__new__" = true ∧ PySem.W.keepIn K (.ref (He.ga K "NoArea")) = true ∧ PySem.W.subIn K (.ref (He.ga K "NoArea")) (.type "BaseException") = some true ∧ PySem.W.typeIn K (.ref (He.ga K "NoArea")) = some (.type "type") := He.exc_ok (T.fact 90 (f := .exc "NoArea") rfl)
theorem e_NoNumber (T : TX K mg) : PySem.W.excIn K (He.ga K "NoNumber") He.veBase "ValueError.__new__" = true ∧ PySem.W.keepIn K (.ref (He.ga K "NoNumber")) = true ∧ PySem.W.subIn K (.ref (He.ga K "NoNumber")) (.type "BaseException") = some true ∧ PySem.W.typeIn K (.ref (He.ga K "NoNumber")) = some (.type "type") := He.exc_ok (T.fact 91 (f := .exc "NoNumber") rfl)
theorem e_NoChange (T : TX K mg) : PySem.W.excIn K (He.ga K "NoChange") He.veBase "ValueError.__new__" = true ∧ PySem.W.keepIn K (.ref (He.ga K "NoChange")) = true ∧ PySem.W.subIn K (.ref (He.ga K "NoChange")) (.type "BaseException") = some true ∧ PySem.W.typeIn K (.ref (He.ga K "NoChange")) = some (.type "type") := He.exc_ok (T.fact 92 (f := .exc "NoChange") rfl)
theorem e_NoValue (T : TX K mg) : PySem.W.excIn K (He.ga K "NoValue") He.veBase "ValueError.__new__" = true ∧ PySem.W.keepIn K (.ref (He.ga K "NoValue")) = true ∧ PySem.W.subIn K (.ref (He.ga K "NoValue")) (.type "BaseException") = some true ∧ PySem.W.typeIn K (.ref (He.ga K "NoValue")) = some (.type "type") := He.exc_ok (T.fact 93 (f := .exc "NoValue") rfl)
theorem e_NoSheet (T : TX K mg) : PySem.W.excIn K (He.ga K "NoSheet") He.veBase "ValueError.__new__" = true ∧ PySem.W.keepIn K (.ref (He.ga K "NoSheet")) = true ∧ PySem.W.subIn K (.ref (He.ga K "NoSheet")) (.type "BaseException") = some true ∧ PySem.W.typeIn K (.ref (He.ga K "NoSheet")) = some (.type "type") := He.exc_ok (T.fact 94 (f := .exc "NoSheet") rfl)
theorem k_Block (T : TX K mg) : Cls K (He.ga K "Block") := He.cls_ok (T.fact 95 (f := .cls "Block") rfl)
theorem mk_Block (T : TX K mg) : Mk K (He.ga K "Block") (He.ma K (He.ga K "Block") "__init__") := He.mkr_ok (T.fact 96 (f := .mkr "Block") rfl)
theorem m_Block___init__ (T : TX K mg) : Meth K (He.ga K "Block") "__init__" (He.ma K (He.ga K "Block") "__init__") := He.meth_ok (T.fact 97 (f := .meth "Block" "__init__") rfl)
theorem m_Block___eq__ (T : TX K mg) : Meth K (He.ga K "Block") "__eq__" (He.ma K (He.ga K "Block") "__eq__") := He.meth_ok (T.fact 98 (f := .meth "Block" "__eq__") rfl)
theorem m_Block___str__ (T : TX K mg) : Meth K (He.ga K "Block") "__str__" (He.ma K (He.ga K "Block") "__str__") := He.meth_ok (T.fact 99 (f := .meth "Block" "__str__") rfl)
theorem m_Block___repr__ (T : TX K mg) : Meth K (He.ga K "Block") "__repr__" (He.ma K (He.ga K "Block") "__repr__") := He.meth_ok (T.fact 100 (f := .meth "Block" "__repr__") rfl)
theorem m_Block_has (T : TX K mg) : Meth K (He.ga K "Block") "has" (He.ma K (He.ga K "Block") "has") := He.meth_ok (T.fact 101 (f := .meth "Block" "has") rfl)
theorem m_Block_size (T : TX K mg) : Meth K (He.ga K "Block") "size" (He.ma K (He.ga K "Block") "size") := He.meth_ok (T.fact 102 (f := .meth "Block" "size") rfl)
theorem n_Block_top (T : TX K mg) : NoAttr K (He.ga K "Block") "top" := He.noat_ok (T.fact 103 (f := .noat "Block" "top") rfl)
theorem n_Block_left (T : TX K mg) : NoAttr K (He.ga K "Block") "left" := He.noat_ok (T.fact 104 (f := .noat "Block" "left") rfl)
theorem n_Block_bottom (T : TX K mg) : NoAttr K (He.ga K "Block") "bottom" := He.noat_ok (T.fact 105 (f := .noat "Block" "bottom") rfl)
theorem n_Block_right (T : TX K mg) : NoAttr K (He.ga K "Block") "right" := He.noat_ok (T.fact 106 (f := .noat "Block" "right") rfl)
theorem k_Area (T : TX K mg) : Cls K (He.ga K "Area") := He.cls_ok (T.fact 107 (f := .cls "Area") rfl)
theorem mk_Area (T : TX K mg) : Mk K (He.ga K "Area") (He.ma K (He.ga K "Area") "__init__") := He.mkr_ok (T.fact 108 (f := .mkr "Area") rfl)
theorem m_Area___init__ (T : TX K mg) : Meth K (He.ga K "Area") "__init__" (He.ma K (He.ga K "Area") "__init__") := He.meth_ok (T.fact 109 (f := .meth "Area" "__init__") rfl)
theorem m_Area___eq__ (T : TX K mg) : Meth K (He.ga K "Area") "__eq__" (He.ma K (He.ga K "Area") "__eq__") := He.meth_ok (T.fact 110 (f := .meth "Area" "__eq__") rfl)
theorem m_Area___len__ (T : TX K mg) : Meth K (He.ga K "Area") "__len__" (He.ma K (He.ga K "Area") "__len__") := He.meth_ok (T.fact 111 (f := .meth "Area" "__len__") rfl)
theorem m_Area___str__ (T : TX K mg) : Meth K (He.ga K "Area") "__str__" (He.ma K (He.ga K "Area") "__str__") := He.meth_ok (T.fact 112 (f := .meth "Area" "__str__") rfl)
theorem m_Area___repr__ (T : TX K mg) : Meth K (He.ga K "Area") "__repr__" (He.ma K (He.ga K "Area") "__repr__") := He.meth_ok (T.fact 113 (f := .meth "Area" "__repr__") rfl)
theorem m_Area_blocks (T : TX K mg) : Meth K (He.ga K "Area") "blocks" (He.ma K (He.ga K "Area") "blocks") := He.meth_ok (T.fact 114 (f := .meth "Area" "blocks") rfl)
theorem m_Area_firsts (T : TX K mg) : Meth K (He.ga K "Area") "firsts" (He.ma K (He.ga K "Area") "firsts") := He.meth_ok (T.fact 115 (f := .meth "Area" "firsts") rfl)
theorem m_Area_has (T : TX K mg) : Meth K (He.ga K "Area") "has" (He.ma K (He.ga K "Area") "has") := He.meth_ok (T.fact 116 (f := .meth "Area" "has") rfl)
theorem m_Area_size (T : TX K mg) : Meth K (He.ga K "Area") "size" (He.ma K (He.ga K "Area") "size") := He.meth_ok (T.fact 117 (f := .meth "Area" "size") rfl)
theorem m_Area_by (T : TX K mg) : Meth K (He.ga K "Area") "by" (He.ma K (He.ga K "Area") "by") := He.meth_ok (T.fact 118 (f := .meth "Area" "by") rfl)
theorem m_Area_met (T : TX K mg) : Meth K (He.ga K "Area") "met" (He.ma K (He.ga K "Area") "met") := He.meth_ok (T.fact 119 (f := .meth "Area" "met") rfl)
theorem m_Area_joined (T : TX K mg) : Meth K (He.ga K "Area") "joined" (He.ma K (He.ga K "Area") "joined") := He.meth_ok (T.fact 120 (f := .meth "Area" "joined") rfl)
theorem m_Area_without (T : TX K mg) : Meth K (He.ga K "Area") "without" (He.ma K (He.ga K "Area") "without") := He.meth_ok (T.fact 121 (f := .meth "Area" "without") rfl)
theorem m_Area_others (T : TX K mg) : Meth K (He.ga K "Area") "others" (He.ma K (He.ga K "Area") "others") := He.meth_ok (T.fact 122 (f := .meth "Area" "others") rfl)
theorem m_Area_is_within (T : TX K mg) : Meth K (He.ga K "Area") "is_within" (He.ma K (He.ga K "Area") "is_within") := He.meth_ok (T.fact 123 (f := .meth "Area" "is_within") rfl)
theorem m_Area_meets (T : TX K mg) : Meth K (He.ga K "Area") "meets" (He.ma K (He.ga K "Area") "meets") := He.meth_ok (T.fact 124 (f := .meth "Area" "meets") rfl)
theorem m_Area_turned (T : TX K mg) : Meth K (He.ga K "Area") "turned" (He.ma K (He.ga K "Area") "turned") := He.meth_ok (T.fact 125 (f := .meth "Area" "turned") rfl)
theorem m_Area_shifted (T : TX K mg) : Meth K (He.ga K "Area") "shifted" (He.ma K (He.ga K "Area") "shifted") := He.meth_ok (T.fact 126 (f := .meth "Area" "shifted") rfl)
theorem n_Area_form (T : TX K mg) : NoAttr K (He.ga K "Area") "form" := He.noat_ok (T.fact 127 (f := .noat "Area" "form") rfl)
theorem k_Change (T : TX K mg) : Cls K (He.ga K "Change") := He.cls_ok (T.fact 128 (f := .cls "Change") rfl)
theorem m_Change_checked (T : TX K mg) : Meth K (He.ga K "Change") "checked" (He.ma K (He.ga K "Change") "checked") := He.meth_ok (T.fact 129 (f := .meth "Change" "checked") rfl)
theorem k_Sheet (T : TX K mg) : Cls K (He.ga K "Sheet") := He.cls_ok (T.fact 130 (f := .cls "Sheet") rfl)
theorem mk_Sheet (T : TX K mg) : Mk K (He.ga K "Sheet") (He.ma K (He.ga K "Sheet") "__init__") := He.mkr_ok (T.fact 131 (f := .mkr "Sheet") rfl)
theorem m_Sheet___init__ (T : TX K mg) : Meth K (He.ga K "Sheet") "__init__" (He.ma K (He.ga K "Sheet") "__init__") := He.meth_ok (T.fact 132 (f := .meth "Sheet" "__init__") rfl)
theorem m_Sheet___eq__ (T : TX K mg) : Meth K (He.ga K "Sheet") "__eq__" (He.ma K (He.ga K "Sheet") "__eq__") := He.meth_ok (T.fact 133 (f := .meth "Sheet" "__eq__") rfl)
theorem m_Sheet___len__ (T : TX K mg) : Meth K (He.ga K "Sheet") "__len__" (He.ma K (He.ga K "Sheet") "__len__") := He.meth_ok (T.fact 134 (f := .meth "Sheet" "__len__") rfl)
theorem m_Sheet_fill (T : TX K mg) : Meth K (He.ga K "Sheet") "fill" (He.ma K (He.ga K "Sheet") "fill") := He.meth_ok (T.fact 135 (f := .meth "Sheet" "fill") rfl)
theorem m_Sheet_hold (T : TX K mg) : Meth K (He.ga K "Sheet") "hold" (He.ma K (He.ga K "Sheet") "hold") := He.meth_ok (T.fact 136 (f := .meth "Sheet" "hold") rfl)
theorem m_Sheet_value (T : TX K mg) : Meth K (He.ga K "Sheet") "value" (He.ma K (He.ga K "Sheet") "value") := He.meth_ok (T.fact 137 (f := .meth "Sheet" "value") rfl)
theorem m_Sheet_where (T : TX K mg) : Meth K (He.ga K "Sheet") "where" (He.ma K (He.ga K "Sheet") "where") := He.meth_ok (T.fact 138 (f := .meth "Sheet" "where") rfl)
theorem m_Sheet_told (T : TX K mg) : Meth K (He.ga K "Sheet") "told" (He.ma K (He.ga K "Sheet") "told") := He.meth_ok (T.fact 139 (f := .meth "Sheet" "told") rfl)
theorem m_Sheet_pairs (T : TX K mg) : Meth K (He.ga K "Sheet") "pairs" (He.ma K (He.ga K "Sheet") "pairs") := He.meth_ok (T.fact 140 (f := .meth "Sheet" "pairs") rfl)
theorem m_Sheet_change (T : TX K mg) : Meth K (He.ga K "Sheet") "change" (He.ma K (He.ga K "Sheet") "change") := He.meth_ok (T.fact 141 (f := .meth "Sheet" "change") rfl)
theorem m_Sheet_laid (T : TX K mg) : Meth K (He.ga K "Sheet") "laid" (He.ma K (He.ga K "Sheet") "laid") := He.meth_ok (T.fact 142 (f := .meth "Sheet" "laid") rfl)
theorem m_Sheet_twin (T : TX K mg) : Meth K (He.ga K "Sheet") "twin" (He.ma K (He.ga K "Sheet") "twin") := He.meth_ok (T.fact 143 (f := .meth "Sheet" "twin") rfl)
theorem n_Sheet_held (T : TX K mg) : NoAttr K (He.ga K "Sheet") "held" := He.noat_ok (T.fact 144 (f := .noat "Sheet" "held") rfl)
theorem ie_CellError_CellError (T : TX K mg) : PySem.W.kitOne K (.ref (He.ga K "CellError")) (.ref (He.ga K "CellError")) = some true := T.keeT 0 (z := ("CellError", "CellError", true)) rfl
theorem ie_CellError_NoCell (T : TX K mg) : PySem.W.kitOne K (.ref (He.ga K "CellError")) (.ref (He.ga K "NoCell")) = some false := T.keeT 1 (z := ("CellError", "NoCell", false)) rfl
theorem ie_CellError_NoColumn (T : TX K mg) : PySem.W.kitOne K (.ref (He.ga K "CellError")) (.ref (He.ga K "NoColumn")) = some false := T.keeT 2 (z := ("CellError", "NoColumn", false)) rfl
theorem ie_CellError_NoBlock (T : TX K mg) : PySem.W.kitOne K (.ref (He.ga K "CellError")) (.ref (He.ga K "NoBlock")) = some false := T.keeT 3 (z := ("CellError", "NoBlock", false)) rfl
theorem ie_CellError_NoArea (T : TX K mg) : PySem.W.kitOne K (.ref (He.ga K "CellError")) (.ref (He.ga K "NoArea")) = some false := T.keeT 4 (z := ("CellError", "NoArea", false)) rfl
theorem ie_CellError_NoNumber (T : TX K mg) : PySem.W.kitOne K (.ref (He.ga K "CellError")) (.ref (He.ga K "NoNumber")) = some false := T.keeT 5 (z := ("CellError", "NoNumber", false)) rfl
theorem ie_CellError_NoChange (T : TX K mg) : PySem.W.kitOne K (.ref (He.ga K "CellError")) (.ref (He.ga K "NoChange")) = some false := T.keeT 6 (z := ("CellError", "NoChange", false)) rfl
theorem ie_CellError_NoValue (T : TX K mg) : PySem.W.kitOne K (.ref (He.ga K "CellError")) (.ref (He.ga K "NoValue")) = some false := T.keeT 7 (z := ("CellError", "NoValue", false)) rfl
theorem ie_CellError_NoSheet (T : TX K mg) : PySem.W.kitOne K (.ref (He.ga K "CellError")) (.ref (He.ga K "NoSheet")) = some false := T.keeT 8 (z := ("CellError", "NoSheet", false)) rfl
theorem ie_NoCell_CellError (T : TX K mg) : PySem.W.kitOne K (.ref (He.ga K "NoCell")) (.ref (He.ga K "CellError")) = some true := T.keeT 9 (z := ("NoCell", "CellError", true)) rfl
theorem ie_NoCell_NoCell (T : TX K mg) : PySem.W.kitOne K (.ref (He.ga K "NoCell")) (.ref (He.ga K "NoCell")) = some true := T.keeT 10 (z := ("NoCell", "NoCell", true)) rfl
theorem ie_NoCell_NoColumn (T : TX K mg) : PySem.W.kitOne K (.ref (He.ga K "NoCell")) (.ref (He.ga K "NoColumn")) = some false := T.keeT 11 (z := ("NoCell", "NoColumn", false)) rfl
theorem ie_NoCell_NoBlock (T : TX K mg) : PySem.W.kitOne K (.ref (He.ga K "NoCell")) (.ref (He.ga K "NoBlock")) = some false := T.keeT 12 (z := ("NoCell", "NoBlock", false)) rfl
theorem ie_NoCell_NoArea (T : TX K mg) : PySem.W.kitOne K (.ref (He.ga K "NoCell")) (.ref (He.ga K "NoArea")) = some false := T.keeT 13 (z := ("NoCell", "NoArea", false)) rfl
theorem ie_NoCell_NoNumber (T : TX K mg) : PySem.W.kitOne K (.ref (He.ga K "NoCell")) (.ref (He.ga K "NoNumber")) = some false := T.keeT 14 (z := ("NoCell", "NoNumber", false)) rfl
theorem ie_NoCell_NoChange (T : TX K mg) : PySem.W.kitOne K (.ref (He.ga K "NoCell")) (.ref (He.ga K "NoChange")) = some false := T.keeT 15 (z := ("NoCell", "NoChange", false)) rfl
theorem ie_NoCell_NoValue (T : TX K mg) : PySem.W.kitOne K (.ref (He.ga K "NoCell")) (.ref (He.ga K "NoValue")) = some false := T.keeT 16 (z := ("NoCell", "NoValue", false)) rfl
theorem ie_NoCell_NoSheet (T : TX K mg) : PySem.W.kitOne K (.ref (He.ga K "NoCell")) (.ref (He.ga K "NoSheet")) = some false := T.keeT 17 (z := ("NoCell", "NoSheet", false)) rfl
theorem ie_NoColumn_CellError (T : TX K mg) : PySem.W.kitOne K (.ref (He.ga K "NoColumn")) (.ref (He.ga K "CellError")) = some true := T.keeT 18 (z := ("NoColumn", "CellError", true)) rfl
theorem ie_NoColumn_NoCell (T : TX K mg) : PySem.W.kitOne K (.ref (He.ga K "NoColumn")) (.ref (He.ga K "NoCell")) = some false := T.keeT 19 (z := ("NoColumn", "NoCell", false)) rfl
theorem ie_NoColumn_NoColumn (T : TX K mg) : PySem.W.kitOne K (.ref (He.ga K "NoColumn")) (.ref (He.ga K "NoColumn")) = some true := T.keeT 20 (z := ("NoColumn", "NoColumn", true)) rfl
theorem ie_NoColumn_NoBlock (T : TX K mg) : PySem.W.kitOne K (.ref (He.ga K "NoColumn")) (.ref (He.ga K "NoBlock")) = some false := T.keeT 21 (z := ("NoColumn", "NoBlock", false)) rfl
theorem ie_NoColumn_NoArea (T : TX K mg) : PySem.W.kitOne K (.ref (He.ga K "NoColumn")) (.ref (He.ga K "NoArea")) = some false := T.keeT 22 (z := ("NoColumn", "NoArea", false)) rfl
theorem ie_NoColumn_NoNumber (T : TX K mg) : PySem.W.kitOne K (.ref (He.ga K "NoColumn")) (.ref (He.ga K "NoNumber")) = some false := T.keeT 23 (z := ("NoColumn", "NoNumber", false)) rfl
theorem ie_NoColumn_NoChange (T : TX K mg) : PySem.W.kitOne K (.ref (He.ga K "NoColumn")) (.ref (He.ga K "NoChange")) = some false := T.keeT 24 (z := ("NoColumn", "NoChange", false)) rfl
theorem ie_NoColumn_NoValue (T : TX K mg) : PySem.W.kitOne K (.ref (He.ga K "NoColumn")) (.ref (He.ga K "NoValue")) = some false := T.keeT 25 (z := ("NoColumn", "NoValue", false)) rfl
theorem ie_NoColumn_NoSheet (T : TX K mg) : PySem.W.kitOne K (.ref (He.ga K "NoColumn")) (.ref (He.ga K "NoSheet")) = some false := T.keeT 26 (z := ("NoColumn", "NoSheet", false)) rfl
theorem ie_NoBlock_CellError (T : TX K mg) : PySem.W.kitOne K (.ref (He.ga K "NoBlock")) (.ref (He.ga K "CellError")) = some true := T.keeT 27 (z := ("NoBlock", "CellError", true)) rfl
theorem ie_NoBlock_NoCell (T : TX K mg) : PySem.W.kitOne K (.ref (He.ga K "NoBlock")) (.ref (He.ga K "NoCell")) = some false := T.keeT 28 (z := ("NoBlock", "NoCell", false)) rfl
theorem ie_NoBlock_NoColumn (T : TX K mg) : PySem.W.kitOne K (.ref (He.ga K "NoBlock")) (.ref (He.ga K "NoColumn")) = some false := T.keeT 29 (z := ("NoBlock", "NoColumn", false)) rfl
theorem ie_NoBlock_NoBlock (T : TX K mg) : PySem.W.kitOne K (.ref (He.ga K "NoBlock")) (.ref (He.ga K "NoBlock")) = some true := T.keeT 30 (z := ("NoBlock", "NoBlock", true)) rfl
theorem ie_NoBlock_NoArea (T : TX K mg) : PySem.W.kitOne K (.ref (He.ga K "NoBlock")) (.ref (He.ga K "NoArea")) = some false := T.keeT 31 (z := ("NoBlock", "NoArea", false)) rfl
theorem ie_NoBlock_NoNumber (T : TX K mg) : PySem.W.kitOne K (.ref (He.ga K "NoBlock")) (.ref (He.ga K "NoNumber")) = some false := T.keeT 32 (z := ("NoBlock", "NoNumber", false)) rfl
theorem ie_NoBlock_NoChange (T : TX K mg) : PySem.W.kitOne K (.ref (He.ga K "NoBlock")) (.ref (He.ga K "NoChange")) = some false := T.keeT 33 (z := ("NoBlock", "NoChange", false)) rfl
theorem ie_NoBlock_NoValue (T : TX K mg) : PySem.W.kitOne K (.ref (He.ga K "NoBlock")) (.ref (He.ga K "NoValue")) = some false := T.keeT 34 (z := ("NoBlock", "NoValue", false)) rfl
theorem ie_NoBlock_NoSheet (T : TX K mg) : PySem.W.kitOne K (.ref (He.ga K "NoBlock")) (.ref (He.ga K "NoSheet")) = some false := T.keeT 35 (z := ("NoBlock", "NoSheet", false)) rfl
theorem ie_NoArea_CellError (T : TX K mg) : PySem.W.kitOne K (.ref (He.ga K "NoArea")) (.ref (He.ga K "CellError")) = some true := T.keeT 36 (z := ("NoArea", "CellError", true)) rfl
theorem ie_NoArea_NoCell (T : TX K mg) : PySem.W.kitOne K (.ref (He.ga K "NoArea")) (.ref (He.ga K "NoCell")) = some false := T.keeT 37 (z := ("NoArea", "NoCell", false)) rfl
theorem ie_NoArea_NoColumn (T : TX K mg) : PySem.W.kitOne K (.ref (He.ga K "NoArea")) (.ref (He.ga K "NoColumn")) = some false := T.keeT 38 (z := ("NoArea", "NoColumn", false)) rfl
theorem ie_NoArea_NoBlock (T : TX K mg) : PySem.W.kitOne K (.ref (He.ga K "NoArea")) (.ref (He.ga K "NoBlock")) = some false := T.keeT 39 (z := ("NoArea", "NoBlock", false)) rfl
theorem ie_NoArea_NoArea (T : TX K mg) : PySem.W.kitOne K (.ref (He.ga K "NoArea")) (.ref (He.ga K "NoArea")) = some true := T.keeT 40 (z := ("NoArea", "NoArea", true)) rfl
theorem ie_NoArea_NoNumber (T : TX K mg) : PySem.W.kitOne K (.ref (He.ga K "NoArea")) (.ref (He.ga K "NoNumber")) = some false := T.keeT 41 (z := ("NoArea", "NoNumber", false)) rfl
theorem ie_NoArea_NoChange (T : TX K mg) : PySem.W.kitOne K (.ref (He.ga K "NoArea")) (.ref (He.ga K "NoChange")) = some false := T.keeT 42 (z := ("NoArea", "NoChange", false)) rfl
theorem ie_NoArea_NoValue (T : TX K mg) : PySem.W.kitOne K (.ref (He.ga K "NoArea")) (.ref (He.ga K "NoValue")) = some false := T.keeT 43 (z := ("NoArea", "NoValue", false)) rfl
theorem ie_NoArea_NoSheet (T : TX K mg) : PySem.W.kitOne K (.ref (He.ga K "NoArea")) (.ref (He.ga K "NoSheet")) = some false := T.keeT 44 (z := ("NoArea", "NoSheet", false)) rfl
theorem ie_NoNumber_CellError (T : TX K mg) : PySem.W.kitOne K (.ref (He.ga K "NoNumber")) (.ref (He.ga K "CellError")) = some true := T.keeT 45 (z := ("NoNumber", "CellError", true)) rfl
theorem ie_NoNumber_NoCell (T : TX K mg) : PySem.W.kitOne K (.ref (He.ga K "NoNumber")) (.ref (He.ga K "NoCell")) = some false := T.keeT 46 (z := ("NoNumber", "NoCell", false)) rfl
theorem ie_NoNumber_NoColumn (T : TX K mg) : PySem.W.kitOne K (.ref (He.ga K "NoNumber")) (.ref (He.ga K "NoColumn")) = some false := T.keeT 47 (z := ("NoNumber", "NoColumn", false)) rfl
theorem ie_NoNumber_NoBlock (T : TX K mg) : PySem.W.kitOne K (.ref (He.ga K "NoNumber")) (.ref (He.ga K "NoBlock")) = some false := T.keeT 48 (z := ("NoNumber", "NoBlock", false)) rfl
theorem ie_NoNumber_NoArea (T : TX K mg) : PySem.W.kitOne K (.ref (He.ga K "NoNumber")) (.ref (He.ga K "NoArea")) = some false := T.keeT 49 (z := ("NoNumber", "NoArea", false)) rfl
theorem ie_NoNumber_NoNumber (T : TX K mg) : PySem.W.kitOne K (.ref (He.ga K "NoNumber")) (.ref (He.ga K "NoNumber")) = some true := T.keeT 50 (z := ("NoNumber", "NoNumber", true)) rfl
theorem ie_NoNumber_NoChange (T : TX K mg) : PySem.W.kitOne K (.ref (He.ga K "NoNumber")) (.ref (He.ga K "NoChange")) = some false := T.keeT 51 (z := ("NoNumber", "NoChange", false)) rfl
theorem ie_NoNumber_NoValue (T : TX K mg) : PySem.W.kitOne K (.ref (He.ga K "NoNumber")) (.ref (He.ga K "NoValue")) = some false := T.keeT 52 (z := ("NoNumber", "NoValue", false)) rfl
theorem ie_NoNumber_NoSheet (T : TX K mg) : PySem.W.kitOne K (.ref (He.ga K "NoNumber")) (.ref (He.ga K "NoSheet")) = some false := T.keeT 53 (z := ("NoNumber", "NoSheet", false)) rfl
theorem ie_NoChange_CellError (T : TX K mg) : PySem.W.kitOne K (.ref (He.ga K "NoChange")) (.ref (He.ga K "CellError")) = some true := T.keeT 54 (z := ("NoChange", "CellError", true)) rfl
theorem ie_NoChange_NoCell (T : TX K mg) : PySem.W.kitOne K (.ref (He.ga K "NoChange")) (.ref (He.ga K "NoCell")) = some false := T.keeT 55 (z := ("NoChange", "NoCell", false)) rfl
theorem ie_NoChange_NoColumn (T : TX K mg) : PySem.W.kitOne K (.ref (He.ga K "NoChange")) (.ref (He.ga K "NoColumn")) = some false := T.keeT 56 (z := ("NoChange", "NoColumn", false)) rfl
theorem ie_NoChange_NoBlock (T : TX K mg) : PySem.W.kitOne K (.ref (He.ga K "NoChange")) (.ref (He.ga K "NoBlock")) = some false := T.keeT 57 (z := ("NoChange", "NoBlock", false)) rfl
theorem ie_NoChange_NoArea (T : TX K mg) : PySem.W.kitOne K (.ref (He.ga K "NoChange")) (.ref (He.ga K "NoArea")) = some false := T.keeT 58 (z := ("NoChange", "NoArea", false)) rfl
theorem ie_NoChange_NoNumber (T : TX K mg) : PySem.W.kitOne K (.ref (He.ga K "NoChange")) (.ref (He.ga K "NoNumber")) = some false := T.keeT 59 (z := ("NoChange", "NoNumber", false)) rfl
theorem ie_NoChange_NoChange (T : TX K mg) : PySem.W.kitOne K (.ref (He.ga K "NoChange")) (.ref (He.ga K "NoChange")) = some true := T.keeT 60 (z := ("NoChange", "NoChange", true)) rfl
theorem ie_NoChange_NoValue (T : TX K mg) : PySem.W.kitOne K (.ref (He.ga K "NoChange")) (.ref (He.ga K "NoValue")) = some false := T.keeT 61 (z := ("NoChange", "NoValue", false)) rfl
theorem ie_NoChange_NoSheet (T : TX K mg) : PySem.W.kitOne K (.ref (He.ga K "NoChange")) (.ref (He.ga K "NoSheet")) = some false := T.keeT 62 (z := ("NoChange", "NoSheet", false)) rfl
theorem ie_NoValue_CellError (T : TX K mg) : PySem.W.kitOne K (.ref (He.ga K "NoValue")) (.ref (He.ga K "CellError")) = some true := T.keeT 63 (z := ("NoValue", "CellError", true)) rfl
theorem ie_NoValue_NoCell (T : TX K mg) : PySem.W.kitOne K (.ref (He.ga K "NoValue")) (.ref (He.ga K "NoCell")) = some false := T.keeT 64 (z := ("NoValue", "NoCell", false)) rfl
theorem ie_NoValue_NoColumn (T : TX K mg) : PySem.W.kitOne K (.ref (He.ga K "NoValue")) (.ref (He.ga K "NoColumn")) = some false := T.keeT 65 (z := ("NoValue", "NoColumn", false)) rfl
theorem ie_NoValue_NoBlock (T : TX K mg) : PySem.W.kitOne K (.ref (He.ga K "NoValue")) (.ref (He.ga K "NoBlock")) = some false := T.keeT 66 (z := ("NoValue", "NoBlock", false)) rfl
theorem ie_NoValue_NoArea (T : TX K mg) : PySem.W.kitOne K (.ref (He.ga K "NoValue")) (.ref (He.ga K "NoArea")) = some false := T.keeT 67 (z := ("NoValue", "NoArea", false)) rfl
theorem ie_NoValue_NoNumber (T : TX K mg) : PySem.W.kitOne K (.ref (He.ga K "NoValue")) (.ref (He.ga K "NoNumber")) = some false := T.keeT 68 (z := ("NoValue", "NoNumber", false)) rfl
theorem ie_NoValue_NoChange (T : TX K mg) : PySem.W.kitOne K (.ref (He.ga K "NoValue")) (.ref (He.ga K "NoChange")) = some false := T.keeT 69 (z := ("NoValue", "NoChange", false)) rfl
theorem ie_NoValue_NoValue (T : TX K mg) : PySem.W.kitOne K (.ref (He.ga K "NoValue")) (.ref (He.ga K "NoValue")) = some true := T.keeT 70 (z := ("NoValue", "NoValue", true)) rfl
theorem ie_NoValue_NoSheet (T : TX K mg) : PySem.W.kitOne K (.ref (He.ga K "NoValue")) (.ref (He.ga K "NoSheet")) = some false := T.keeT 71 (z := ("NoValue", "NoSheet", false)) rfl
theorem ie_NoSheet_CellError (T : TX K mg) : PySem.W.kitOne K (.ref (He.ga K "NoSheet")) (.ref (He.ga K "CellError")) = some true := T.keeT 72 (z := ("NoSheet", "CellError", true)) rfl
theorem ie_NoSheet_NoCell (T : TX K mg) : PySem.W.kitOne K (.ref (He.ga K "NoSheet")) (.ref (He.ga K "NoCell")) = some false := T.keeT 73 (z := ("NoSheet", "NoCell", false)) rfl
theorem ie_NoSheet_NoColumn (T : TX K mg) : PySem.W.kitOne K (.ref (He.ga K "NoSheet")) (.ref (He.ga K "NoColumn")) = some false := T.keeT 74 (z := ("NoSheet", "NoColumn", false)) rfl
theorem ie_NoSheet_NoBlock (T : TX K mg) : PySem.W.kitOne K (.ref (He.ga K "NoSheet")) (.ref (He.ga K "NoBlock")) = some false := T.keeT 75 (z := ("NoSheet", "NoBlock", false)) rfl
theorem ie_NoSheet_NoArea (T : TX K mg) : PySem.W.kitOne K (.ref (He.ga K "NoSheet")) (.ref (He.ga K "NoArea")) = some false := T.keeT 76 (z := ("NoSheet", "NoArea", false)) rfl
theorem ie_NoSheet_NoNumber (T : TX K mg) : PySem.W.kitOne K (.ref (He.ga K "NoSheet")) (.ref (He.ga K "NoNumber")) = some false := T.keeT 77 (z := ("NoSheet", "NoNumber", false)) rfl
theorem ie_NoSheet_NoChange (T : TX K mg) : PySem.W.kitOne K (.ref (He.ga K "NoSheet")) (.ref (He.ga K "NoChange")) = some false := T.keeT 78 (z := ("NoSheet", "NoChange", false)) rfl
theorem ie_NoSheet_NoValue (T : TX K mg) : PySem.W.kitOne K (.ref (He.ga K "NoSheet")) (.ref (He.ga K "NoValue")) = some false := T.keeT 79 (z := ("NoSheet", "NoValue", false)) rfl
theorem ie_NoSheet_NoSheet (T : TX K mg) : PySem.W.kitOne K (.ref (He.ga K "NoSheet")) (.ref (He.ga K "NoSheet")) = some true := T.keeT 80 (z := ("NoSheet", "NoSheet", true)) rfl
theorem ec_CellError (T : TX K mg) : ExcC K (He.ga K "CellError") := T.kexT 0 (z := "CellError") rfl
theorem iv_CellError (T : TX K mg) : PySem.W.kitOne K (.ref (He.ga K "CellError")) (.type "ValueError") = some true := T.kev 0 (z := "CellError") rfl
theorem ec_NoCell (T : TX K mg) : ExcC K (He.ga K "NoCell") := T.kexT 1 (z := "NoCell") rfl
theorem iv_NoCell (T : TX K mg) : PySem.W.kitOne K (.ref (He.ga K "NoCell")) (.type "ValueError") = some true := T.kev 1 (z := "NoCell") rfl
theorem ec_NoColumn (T : TX K mg) : ExcC K (He.ga K "NoColumn") := T.kexT 2 (z := "NoColumn") rfl
theorem iv_NoColumn (T : TX K mg) : PySem.W.kitOne K (.ref (He.ga K "NoColumn")) (.type "ValueError") = some true := T.kev 2 (z := "NoColumn") rfl
theorem ec_NoBlock (T : TX K mg) : ExcC K (He.ga K "NoBlock") := T.kexT 3 (z := "NoBlock") rfl
theorem iv_NoBlock (T : TX K mg) : PySem.W.kitOne K (.ref (He.ga K "NoBlock")) (.type "ValueError") = some true := T.kev 3 (z := "NoBlock") rfl
theorem ec_NoArea (T : TX K mg) : ExcC K (He.ga K "NoArea") := T.kexT 4 (z := "NoArea") rfl
theorem iv_NoArea (T : TX K mg) : PySem.W.kitOne K (.ref (He.ga K "NoArea")) (.type "ValueError") = some true := T.kev 4 (z := "NoArea") rfl
theorem ec_NoNumber (T : TX K mg) : ExcC K (He.ga K "NoNumber") := T.kexT 5 (z := "NoNumber") rfl
theorem iv_NoNumber (T : TX K mg) : PySem.W.kitOne K (.ref (He.ga K "NoNumber")) (.type "ValueError") = some true := T.kev 5 (z := "NoNumber") rfl
theorem ec_NoChange (T : TX K mg) : ExcC K (He.ga K "NoChange") := T.kexT 6 (z := "NoChange") rfl
theorem iv_NoChange (T : TX K mg) : PySem.W.kitOne K (.ref (He.ga K "NoChange")) (.type "ValueError") = some true := T.kev 6 (z := "NoChange") rfl
theorem ec_NoValue (T : TX K mg) : ExcC K (He.ga K "NoValue") := T.kexT 7 (z := "NoValue") rfl
theorem iv_NoValue (T : TX K mg) : PySem.W.kitOne K (.ref (He.ga K "NoValue")) (.type "ValueError") = some true := T.kev 7 (z := "NoValue") rfl
theorem ec_NoSheet (T : TX K mg) : ExcC K (He.ga K "NoSheet") := T.kexT 8 (z := "NoSheet") rfl
theorem iv_NoSheet (T : TX K mg) : PySem.W.kitOne K (.ref (He.ga K "NoSheet")) (.type "ValueError") = some true := T.kev 8 (z := "NoSheet") rfl
theorem ne_Block (T : TX K mg) : PySem.W.findIn K (.ref (He.ga K "Block")) "__ne__" = some (some (.builtin "object.__ne__")) ∧ PySem.W.subIn K (.ref (He.ga K "Block")) (.type "object") = some true := T.kneT 0 (z := "Block") rfl
theorem ne_Area (T : TX K mg) : PySem.W.findIn K (.ref (He.ga K "Area")) "__ne__" = some (some (.builtin "object.__ne__")) ∧ PySem.W.subIn K (.ref (He.ga K "Area")) (.type "object") = some true := T.kneT 1 (z := "Area") rfl
theorem ne_Sheet (T : TX K mg) : PySem.W.findIn K (.ref (He.ga K "Sheet")) "__ne__" = some (some (.builtin "object.__ne__")) ∧ PySem.W.subIn K (.ref (He.ga K "Sheet")) (.type "object") = some true := T.kneT 2 (z := "Sheet") rfl
theorem t_Block (T : TX K mg) {H : Hp} {a dx : Addr} {fs : List (Str × V)} (ha : H a = some (.ins (He.ga K "Block") dx fs)) : TyX K H (.ref a) (.ref (He.ga K "Block")) := T.kcl 0 (z := "Block") rfl (k_Block T) ha
theorem t_Area (T : TX K mg) {H : Hp} {a dx : Addr} {fs : List (Str × V)} (ha : H a = some (.ins (He.ga K "Area") dx fs)) : TyX K H (.ref a) (.ref (He.ga K "Area")) := T.kcl 1 (z := "Area") rfl (k_Area T) ha
theorem t_Change (T : TX K mg) {H : Hp} {a dx : Addr} {fs : List (Str × V)} (ha : H a = some (.ins (He.ga K "Change") dx fs)) : TyX K H (.ref a) (.ref (He.ga K "Change")) := T.kcl 2 (z := "Change") rfl (k_Change T) ha
theorem t_Sheet (T : TX K mg) {H : Hp} {a dx : Addr} {fs : List (Str × V)} (ha : H a = some (.ins (He.ga K "Sheet") dx fs)) : TyX K H (.ref a) (.ref (He.ga K "Sheet")) := T.kcl 3 (z := "Sheet") rfl (k_Sheet T) ha
theorem i_Block_Block (T : TX K mg) : PySem.W.kitOne K (.ref (He.ga K "Block")) (.ref (He.ga K "Block")) = some true := T.kio 0 (z := ("Block", "Block", true)) rfl
theorem i_Block_Area (T : TX K mg) : PySem.W.kitOne K (.ref (He.ga K "Block")) (.ref (He.ga K "Area")) = some false := T.kio 1 (z := ("Block", "Area", false)) rfl
theorem i_Block_Change (T : TX K mg) : PySem.W.kitOne K (.ref (He.ga K "Block")) (.ref (He.ga K "Change")) = some false := T.kio 2 (z := ("Block", "Change", false)) rfl
theorem i_Block_Sheet (T : TX K mg) : PySem.W.kitOne K (.ref (He.ga K "Block")) (.ref (He.ga K "Sheet")) = some false := T.kio 3 (z := ("Block", "Sheet", false)) rfl
theorem i_Area_Block (T : TX K mg) : PySem.W.kitOne K (.ref (He.ga K "Area")) (.ref (He.ga K "Block")) = some false := T.kio 4 (z := ("Area", "Block", false)) rfl
theorem i_Area_Area (T : TX K mg) : PySem.W.kitOne K (.ref (He.ga K "Area")) (.ref (He.ga K "Area")) = some true := T.kio 5 (z := ("Area", "Area", true)) rfl
theorem i_Area_Change (T : TX K mg) : PySem.W.kitOne K (.ref (He.ga K "Area")) (.ref (He.ga K "Change")) = some false := T.kio 6 (z := ("Area", "Change", false)) rfl
theorem i_Area_Sheet (T : TX K mg) : PySem.W.kitOne K (.ref (He.ga K "Area")) (.ref (He.ga K "Sheet")) = some false := T.kio 7 (z := ("Area", "Sheet", false)) rfl
theorem i_Change_Block (T : TX K mg) : PySem.W.kitOne K (.ref (He.ga K "Change")) (.ref (He.ga K "Block")) = some false := T.kio 8 (z := ("Change", "Block", false)) rfl
theorem i_Change_Area (T : TX K mg) : PySem.W.kitOne K (.ref (He.ga K "Change")) (.ref (He.ga K "Area")) = some false := T.kio 9 (z := ("Change", "Area", false)) rfl
theorem i_Change_Change (T : TX K mg) : PySem.W.kitOne K (.ref (He.ga K "Change")) (.ref (He.ga K "Change")) = some true := T.kio 10 (z := ("Change", "Change", true)) rfl
theorem i_Change_Sheet (T : TX K mg) : PySem.W.kitOne K (.ref (He.ga K "Change")) (.ref (He.ga K "Sheet")) = some false := T.kio 11 (z := ("Change", "Sheet", false)) rfl
theorem i_Sheet_Block (T : TX K mg) : PySem.W.kitOne K (.ref (He.ga K "Sheet")) (.ref (He.ga K "Block")) = some false := T.kio 12 (z := ("Sheet", "Block", false)) rfl
theorem i_Sheet_Area (T : TX K mg) : PySem.W.kitOne K (.ref (He.ga K "Sheet")) (.ref (He.ga K "Area")) = some false := T.kio 13 (z := ("Sheet", "Area", false)) rfl
theorem i_Sheet_Change (T : TX K mg) : PySem.W.kitOne K (.ref (He.ga K "Sheet")) (.ref (He.ga K "Change")) = some false := T.kio 14 (z := ("Sheet", "Change", false)) rfl
theorem i_Sheet_Sheet (T : TX K mg) : PySem.W.kitOne K (.ref (He.ga K "Sheet")) (.ref (He.ga K "Sheet")) = some true := T.kio 15 (z := ("Sheet", "Sheet", true)) rfl
theorem i_Block_int (T : TX K mg) : PySem.W.kitOne K (.ref (He.ga K "Block")) (.type "int") = some false := T.kib 0 (z := ("Block", "int")) rfl
theorem i_Block_bool (T : TX K mg) : PySem.W.kitOne K (.ref (He.ga K "Block")) (.type "bool") = some false := T.kib 1 (z := ("Block", "bool")) rfl
theorem i_Block_str (T : TX K mg) : PySem.W.kitOne K (.ref (He.ga K "Block")) (.type "str") = some false := T.kib 2 (z := ("Block", "str")) rfl
theorem i_Block_list (T : TX K mg) : PySem.W.kitOne K (.ref (He.ga K "Block")) (.type "list") = some false := T.kib 3 (z := ("Block", "list")) rfl
theorem i_Block_tuple (T : TX K mg) : PySem.W.kitOne K (.ref (He.ga K "Block")) (.type "tuple") = some false := T.kib 4 (z := ("Block", "tuple")) rfl
theorem i_Block_dict (T : TX K mg) : PySem.W.kitOne K (.ref (He.ga K "Block")) (.type "dict") = some false := T.kib 5 (z := ("Block", "dict")) rfl
theorem i_Area_int (T : TX K mg) : PySem.W.kitOne K (.ref (He.ga K "Area")) (.type "int") = some false := T.kib 6 (z := ("Area", "int")) rfl
theorem i_Area_bool (T : TX K mg) : PySem.W.kitOne K (.ref (He.ga K "Area")) (.type "bool") = some false := T.kib 7 (z := ("Area", "bool")) rfl
theorem i_Area_str (T : TX K mg) : PySem.W.kitOne K (.ref (He.ga K "Area")) (.type "str") = some false := T.kib 8 (z := ("Area", "str")) rfl
theorem i_Area_list (T : TX K mg) : PySem.W.kitOne K (.ref (He.ga K "Area")) (.type "list") = some false := T.kib 9 (z := ("Area", "list")) rfl
theorem i_Area_tuple (T : TX K mg) : PySem.W.kitOne K (.ref (He.ga K "Area")) (.type "tuple") = some false := T.kib 10 (z := ("Area", "tuple")) rfl
theorem i_Area_dict (T : TX K mg) : PySem.W.kitOne K (.ref (He.ga K "Area")) (.type "dict") = some false := T.kib 11 (z := ("Area", "dict")) rfl
theorem i_Change_int (T : TX K mg) : PySem.W.kitOne K (.ref (He.ga K "Change")) (.type "int") = some false := T.kib 12 (z := ("Change", "int")) rfl
theorem i_Change_bool (T : TX K mg) : PySem.W.kitOne K (.ref (He.ga K "Change")) (.type "bool") = some false := T.kib 13 (z := ("Change", "bool")) rfl
theorem i_Change_str (T : TX K mg) : PySem.W.kitOne K (.ref (He.ga K "Change")) (.type "str") = some false := T.kib 14 (z := ("Change", "str")) rfl
theorem i_Change_list (T : TX K mg) : PySem.W.kitOne K (.ref (He.ga K "Change")) (.type "list") = some false := T.kib 15 (z := ("Change", "list")) rfl
theorem i_Change_tuple (T : TX K mg) : PySem.W.kitOne K (.ref (He.ga K "Change")) (.type "tuple") = some false := T.kib 16 (z := ("Change", "tuple")) rfl
theorem i_Change_dict (T : TX K mg) : PySem.W.kitOne K (.ref (He.ga K "Change")) (.type "dict") = some false := T.kib 17 (z := ("Change", "dict")) rfl
theorem i_Sheet_int (T : TX K mg) : PySem.W.kitOne K (.ref (He.ga K "Sheet")) (.type "int") = some false := T.kib 18 (z := ("Sheet", "int")) rfl
theorem i_Sheet_bool (T : TX K mg) : PySem.W.kitOne K (.ref (He.ga K "Sheet")) (.type "bool") = some false := T.kib 19 (z := ("Sheet", "bool")) rfl
theorem i_Sheet_str (T : TX K mg) : PySem.W.kitOne K (.ref (He.ga K "Sheet")) (.type "str") = some false := T.kib 20 (z := ("Sheet", "str")) rfl
theorem i_Sheet_list (T : TX K mg) : PySem.W.kitOne K (.ref (He.ga K "Sheet")) (.type "list") = some false := T.kib 21 (z := ("Sheet", "list")) rfl
theorem i_Sheet_tuple (T : TX K mg) : PySem.W.kitOne K (.ref (He.ga K "Sheet")) (.type "tuple") = some false := T.kib 22 (z := ("Sheet", "tuple")) rfl
theorem i_Sheet_dict (T : TX K mg) : PySem.W.kitOne K (.ref (He.ga K "Sheet")) (.type "dict") = some false := T.kib 23 (z := ("Sheet", "dict")) rfl
theorem i_int_Block (T : TX K mg) : PySem.W.kitOne K (.type "int") (.ref (He.ga K "Block")) = some false := T.kit 0 (z := ("int", "Block")) rfl
theorem i_bool_Block (T : TX K mg) : PySem.W.kitOne K (.type "bool") (.ref (He.ga K "Block")) = some false := T.kit 1 (z := ("bool", "Block")) rfl
theorem i_str_Block (T : TX K mg) : PySem.W.kitOne K (.type "str") (.ref (He.ga K "Block")) = some false := T.kit 2 (z := ("str", "Block")) rfl
theorem i_list_Block (T : TX K mg) : PySem.W.kitOne K (.type "list") (.ref (He.ga K "Block")) = some false := T.kit 3 (z := ("list", "Block")) rfl
theorem i_tuple_Block (T : TX K mg) : PySem.W.kitOne K (.type "tuple") (.ref (He.ga K "Block")) = some false := T.kit 4 (z := ("tuple", "Block")) rfl
theorem i_dict_Block (T : TX K mg) : PySem.W.kitOne K (.type "dict") (.ref (He.ga K "Block")) = some false := T.kit 5 (z := ("dict", "Block")) rfl
theorem i_NoneType_Block (T : TX K mg) : PySem.W.kitOne K (.type "NoneType") (.ref (He.ga K "Block")) = some false := T.kit 6 (z := ("NoneType", "Block")) rfl
theorem i_int_Area (T : TX K mg) : PySem.W.kitOne K (.type "int") (.ref (He.ga K "Area")) = some false := T.kit 7 (z := ("int", "Area")) rfl
theorem i_bool_Area (T : TX K mg) : PySem.W.kitOne K (.type "bool") (.ref (He.ga K "Area")) = some false := T.kit 8 (z := ("bool", "Area")) rfl
theorem i_str_Area (T : TX K mg) : PySem.W.kitOne K (.type "str") (.ref (He.ga K "Area")) = some false := T.kit 9 (z := ("str", "Area")) rfl
theorem i_list_Area (T : TX K mg) : PySem.W.kitOne K (.type "list") (.ref (He.ga K "Area")) = some false := T.kit 10 (z := ("list", "Area")) rfl
theorem i_tuple_Area (T : TX K mg) : PySem.W.kitOne K (.type "tuple") (.ref (He.ga K "Area")) = some false := T.kit 11 (z := ("tuple", "Area")) rfl
theorem i_dict_Area (T : TX K mg) : PySem.W.kitOne K (.type "dict") (.ref (He.ga K "Area")) = some false := T.kit 12 (z := ("dict", "Area")) rfl
theorem i_NoneType_Area (T : TX K mg) : PySem.W.kitOne K (.type "NoneType") (.ref (He.ga K "Area")) = some false := T.kit 13 (z := ("NoneType", "Area")) rfl
theorem i_int_Change (T : TX K mg) : PySem.W.kitOne K (.type "int") (.ref (He.ga K "Change")) = some false := T.kit 14 (z := ("int", "Change")) rfl
theorem i_bool_Change (T : TX K mg) : PySem.W.kitOne K (.type "bool") (.ref (He.ga K "Change")) = some false := T.kit 15 (z := ("bool", "Change")) rfl
theorem i_str_Change (T : TX K mg) : PySem.W.kitOne K (.type "str") (.ref (He.ga K "Change")) = some false := T.kit 16 (z := ("str", "Change")) rfl
theorem i_list_Change (T : TX K mg) : PySem.W.kitOne K (.type "list") (.ref (He.ga K "Change")) = some false := T.kit 17 (z := ("list", "Change")) rfl
theorem i_tuple_Change (T : TX K mg) : PySem.W.kitOne K (.type "tuple") (.ref (He.ga K "Change")) = some false := T.kit 18 (z := ("tuple", "Change")) rfl
theorem i_dict_Change (T : TX K mg) : PySem.W.kitOne K (.type "dict") (.ref (He.ga K "Change")) = some false := T.kit 19 (z := ("dict", "Change")) rfl
theorem i_NoneType_Change (T : TX K mg) : PySem.W.kitOne K (.type "NoneType") (.ref (He.ga K "Change")) = some false := T.kit 20 (z := ("NoneType", "Change")) rfl
theorem i_int_Sheet (T : TX K mg) : PySem.W.kitOne K (.type "int") (.ref (He.ga K "Sheet")) = some false := T.kit 21 (z := ("int", "Sheet")) rfl
theorem i_bool_Sheet (T : TX K mg) : PySem.W.kitOne K (.type "bool") (.ref (He.ga K "Sheet")) = some false := T.kit 22 (z := ("bool", "Sheet")) rfl
theorem i_str_Sheet (T : TX K mg) : PySem.W.kitOne K (.type "str") (.ref (He.ga K "Sheet")) = some false := T.kit 23 (z := ("str", "Sheet")) rfl
theorem i_list_Sheet (T : TX K mg) : PySem.W.kitOne K (.type "list") (.ref (He.ga K "Sheet")) = some false := T.kit 24 (z := ("list", "Sheet")) rfl
theorem i_tuple_Sheet (T : TX K mg) : PySem.W.kitOne K (.type "tuple") (.ref (He.ga K "Sheet")) = some false := T.kit 25 (z := ("tuple", "Sheet")) rfl
theorem i_dict_Sheet (T : TX K mg) : PySem.W.kitOne K (.type "dict") (.ref (He.ga K "Sheet")) = some false := T.kit 26 (z := ("dict", "Sheet")) rfl
theorem i_NoneType_Sheet (T : TX K mg) : PySem.W.kitOne K (.type "NoneType") (.ref (He.ga K "Sheet")) = some false := T.kit 27 (z := ("NoneType", "Sheet")) rfl
abbrev f_is_whole (K : PySem.W.Frag) : Addr := (He.ga K "is_whole")
theorem F_is_whole (T : TX K mg) : FunD K "is_whole" "is_whole" (defArgs s_is_whole) (defBody s_is_whole) (defScope s_is_whole) [] [] (f_is_whole K) (fdO K (f_is_whole K)) := fdO_of (T.def_ 0 (d := d_is_whole) rfl)
theorem b_is_whole (T : TX K mg) : Binds K (fdO K (f_is_whole K)) ["thing"] [] := (F_is_whole T).bindsN fun _ _ _ _ _ _ us hl => match us, hl with | [_], _ => rfl
abbrev f_is_count (K : PySem.W.Frag) : Addr := (He.ga K "is_count")
theorem F_is_count (T : TX K mg) : FunD K "is_count" "is_count" (defArgs s_is_count) (defBody s_is_count) (defScope s_is_count) [] [] (f_is_count K) (fdO K (f_is_count K)) := fdO_of (T.def_ 1 (d := d_is_count) rfl)
theorem b_is_count (T : TX K mg) : Binds K (fdO K (f_is_count K)) ["thing"] [] := (F_is_count T).bindsN fun _ _ _ _ _ _ us hl => match us, hl with | [_], _ => rfl
abbrev f_is_cell (K : PySem.W.Frag) : Addr := (He.ga K "is_cell")
theorem F_is_cell (T : TX K mg) : FunD K "is_cell" "is_cell" (defArgs s_is_cell) (defBody s_is_cell) (defScope s_is_cell) [] [] (f_is_cell K) (fdO K (f_is_cell K)) := fdO_of (T.def_ 2 (d := d_is_cell) rfl)
theorem b_is_cell (T : TX K mg) : Binds K (fdO K (f_is_cell K)) ["thing"] [] := (F_is_cell T).bindsN fun _ _ _ _ _ _ us hl => match us, hl with | [_], _ => rfl
abbrev f_checked_cell (K : PySem.W.Frag) : Addr := (He.ga K "checked_cell")
theorem F_checked_cell (T : TX K mg) : FunD K "checked_cell" "checked_cell" (defArgs s_checked_cell) (defBody s_checked_cell) (defScope s_checked_cell) [] [] (f_checked_cell K) (fdO K (f_checked_cell K)) := fdO_of (T.def_ 3 (d := d_checked_cell) rfl)
theorem b_checked_cell (T : TX K mg) : Binds K (fdO K (f_checked_cell K)) ["thing"] [] := (F_checked_cell T).bindsN fun _ _ _ _ _ _ us hl => match us, hl with | [_], _ => rfl
abbrev f_checked_move (K : PySem.W.Frag) : Addr := (He.ga K "checked_move")
theorem F_checked_move (T : TX K mg) : FunD K "checked_move" "checked_move" (defArgs s_checked_move) (defBody s_checked_move) (defScope s_checked_move) [] [] (f_checked_move K) (fdO K (f_checked_move K)) := fdO_of (T.def_ 4 (d := d_checked_move) rfl)
theorem b_checked_move (T : TX K mg) : Binds K (fdO K (f_checked_move K)) ["rows", "columns"] [] := (F_checked_move T).bindsN fun _ _ _ _ _ _ us hl => match us, hl with | [_, _], _ => rfl
abbrev f_letters_of (K : PySem.W.Frag) : Addr := (He.ga K "letters_of")
theorem F_letters_of (T : TX K mg) : FunD K "letters_of" "letters_of" (defArgs s_letters_of) (defBody s_letters_of) (defScope s_letters_of) [] [] (f_letters_of K) (fdO K (f_letters_of K)) := fdO_of (T.def_ 5 (d := d_letters_of) rfl)
theorem b_letters_of (T : TX K mg) : Binds K (fdO K (f_letters_of K)) ["number"] [] := (F_letters_of T).bindsN fun _ _ _ _ _ _ us hl => match us, hl with | [_], _ => rfl
abbrev f_is_end (K : PySem.W.Frag) : Addr := (He.ga K "is_end")
theorem F_is_end (T : TX K mg) : FunD K "is_end" "is_end" (defArgs s_is_end) (defBody s_is_end) (defScope s_is_end) [] [] (f_is_end K) (fdO K (f_is_end K)) := fdO_of (T.def_ 6 (d := d_is_end) rfl)
theorem b_is_end (T : TX K mg) : Binds K (fdO K (f_is_end K)) ["first", "last"] [] := (F_is_end T).bindsN fun _ _ _ _ _ _ us hl => match us, hl with | [_, _], _ => rfl
abbrev f_is_rows (K : PySem.W.Frag) : Addr := (He.ga K "is_rows")
theorem F_is_rows (T : TX K mg) : FunD K "is_rows" "is_rows" (defArgs s_is_rows) (defBody s_is_rows) (defScope s_is_rows) [] [] (f_is_rows K) (fdO K (f_is_rows K)) := fdO_of (T.def_ 7 (d := d_is_rows) rfl)
theorem b_is_rows (T : TX K mg) : Binds K (fdO K (f_is_rows K)) ["block"] [] := (F_is_rows T).bindsN fun _ _ _ _ _ _ us hl => match us, hl with | [_], _ => rfl
abbrev f_is_columns (K : PySem.W.Frag) : Addr := (He.ga K "is_columns")
theorem F_is_columns (T : TX K mg) : FunD K "is_columns" "is_columns" (defArgs s_is_columns) (defBody s_is_columns) (defScope s_is_columns) [] [] (f_is_columns K) (fdO K (f_is_columns K)) := fdO_of (T.def_ 8 (d := d_is_columns) rfl)
theorem b_is_columns (T : TX K mg) : Binds K (fdO K (f_is_columns K)) ["block"] [] := (F_is_columns T).bindsN fun _ _ _ _ _ _ us hl => match us, hl with | [_], _ => rfl
abbrev f_letters_ahead (K : PySem.W.Frag) : Addr := (He.ga K "letters_ahead")
theorem F_letters_ahead (T : TX K mg) : FunD K "letters_ahead" "letters_ahead" (defArgs s_letters_ahead) (defBody s_letters_ahead) (defScope s_letters_ahead) [] [] (f_letters_ahead K) (fdO K (f_letters_ahead K)) := fdO_of (T.def_ 9 (d := d_letters_ahead) rfl)
theorem b_letters_ahead (T : TX K mg) : Binds K (fdO K (f_letters_ahead K)) ["row", "column"] [] := (F_letters_ahead T).bindsN fun _ _ _ _ _ _ us hl => match us, hl with | [_, _], _ => rfl
abbrev f_by_ends (K : PySem.W.Frag) : Addr := (He.ga K "by_ends")
theorem F_by_ends (T : TX K mg) : FunD K "by_ends" "by_ends" (defArgs s_by_ends) (defBody s_by_ends) (defScope s_by_ends) [] [] (f_by_ends K) (fdO K (f_by_ends K)) := fdO_of (T.def_ 10 (d := d_by_ends) rfl)
theorem b_by_ends (T : TX K mg) : Binds K (fdO K (f_by_ends K)) ["block", "rows", "columns", "together"] [] := (F_by_ends T).bindsN fun _ _ _ _ _ _ us hl => match us, hl with | [_, _, _, _], _ => rfl
abbrev f_Block___init__ (K : PySem.W.Frag) : Addr := (He.ma K (He.ga K "Block") "__init__")
theorem F_Block___init__ (T : TX K mg) : FunD K "__init__" "Block.__init__" (defArgs s_Block___init__) (defBody s_Block___init__) (defScope s_Block___init__) [(V.int 1 : V), (V.int 1 : V), (V.non : V), (V.non : V)] [] (f_Block___init__ K) (fdO K (f_Block___init__ K)) := fdO_of (T.def_ 11 (d := d_Block___init__) rfl)
theorem b_Block___init___1 (T : TX K mg) : ∃ ds, Vals [(V.int 1 : V), (V.int 1 : V), (V.non : V), (V.non : V)] ds ∧ Binds K (fdO K (f_Block___init__ K)) ["self", "top", "left", "bottom", "right"] ds := (F_Block___init__ T).binds1 1 0 (by decide) (by decide) fun _ _ _ _ _ _ _ us its hl hi => match us, its, hl, hi with | [_], [_, _, _, _], _, _ => ⟨_, rfl, rfl⟩
theorem b_Block___init___2 (T : TX K mg) : ∃ ds, Vals [(V.int 1 : V), (V.non : V), (V.non : V)] ds ∧ Binds K (fdO K (f_Block___init__ K)) ["self", "top", "left", "bottom", "right"] ds := (F_Block___init__ T).binds1 2 1 (by decide) (by decide) fun _ _ _ _ _ _ _ us its hl hi => match us, its, hl, hi with | [_, _], [_, _, _, _], _, _ => ⟨_, rfl, rfl⟩
theorem b_Block___init___3 (T : TX K mg) : ∃ ds, Vals [(V.non : V), (V.non : V)] ds ∧ Binds K (fdO K (f_Block___init__ K)) ["self", "top", "left", "bottom", "right"] ds := (F_Block___init__ T).binds1 3 2 (by decide) (by decide) fun _ _ _ _ _ _ _ us its hl hi => match us, its, hl, hi with | [_, _, _], [_, _, _, _], _, _ => ⟨_, rfl, rfl⟩
theorem b_Block___init___4 (T : TX K mg) : ∃ ds, Vals [(V.non : V)] ds ∧ Binds K (fdO K (f_Block___init__ K)) ["self", "top", "left", "bottom", "right"] ds := (F_Block___init__ T).binds1 4 3 (by decide) (by decide) fun _ _ _ _ _ _ _ us its hl hi => match us, its, hl, hi with | [_, _, _, _], [_, _, _, _], _, _ => ⟨_, rfl, rfl⟩
theorem b_Block___init___5 (T : TX K mg) : ∃ ds, Vals [] ds ∧ Binds K (fdO K (f_Block___init__ K)) ["self", "top", "left", "bottom", "right"] ds := (F_Block___init__ T).binds1 5 4 (by decide) (by decide) fun _ _ _ _ _ _ _ us its hl hi => match us, its, hl, hi with | [_, _, _, _, _], [_, _, _, _], _, _ => ⟨_, rfl, rfl⟩
abbrev f_Block___eq__ (K : PySem.W.Frag) : Addr := (He.ma K (He.ga K "Block") "__eq__")
theorem F_Block___eq__ (T : TX K mg) : FunD K "__eq__" "Block.__eq__" (defArgs s_Block___eq__) (defBody s_Block___eq__) (defScope s_Block___eq__) [] [] (f_Block___eq__ K) (fdO K (f_Block___eq__ K)) := fdO_of (T.def_ 12 (d := d_Block___eq__) rfl)
theorem b_Block___eq__ (T : TX K mg) : Binds K (fdO K (f_Block___eq__ K)) ["self", "other"] [] := (F_Block___eq__ T).bindsN fun _ _ _ _ _ _ us hl => match us, hl with | [_, _], _ => rfl
abbrev f_Block___str__ (K : PySem.W.Frag) : Addr := (He.ma K (He.ga K "Block") "__str__")
theorem F_Block___str__ (T : TX K mg) : FunD K "__str__" "Block.__str__" (defArgs s_Block___str__) (defBody s_Block___str__) (defScope s_Block___str__) [] [] (f_Block___str__ K) (fdO K (f_Block___str__ K)) := fdO_of (T.def_ 13 (d := d_Block___str__) rfl)
theorem b_Block___str__ (T : TX K mg) : Binds K (fdO K (f_Block___str__ K)) ["self"] [] := (F_Block___str__ T).bindsN fun _ _ _ _ _ _ us hl => match us, hl with | [_], _ => rfl
abbrev f_Block___repr__ (K : PySem.W.Frag) : Addr := (He.ma K (He.ga K "Block") "__repr__")
theorem F_Block___repr__ (T : TX K mg) : FunD K "__repr__" "Block.__repr__" (defArgs s_Block___repr__) (defBody s_Block___repr__) (defScope s_Block___repr__) [] [] (f_Block___repr__ K) (fdO K (f_Block___repr__ K)) := fdO_of (T.def_ 14 (d := d_Block___repr__) rfl)
theorem b_Block___repr__ (T : TX K mg) : Binds K (fdO K (f_Block___repr__ K)) ["self"] [] := (F_Block___repr__ T).bindsN fun _ _ _ _ _ _ us hl => match us, hl with | [_], _ => rfl
abbrev f_Block_has (K : PySem.W.Frag) : Addr := (He.ma K (He.ga K "Block") "has")
theorem F_Block_has (T : TX K mg) : FunD K "has" "Block.has" (defArgs s_Block_has) (defBody s_Block_has) (defScope s_Block_has) [] [] (f_Block_has K) (fdO K (f_Block_has K)) := fdO_of (T.def_ 15 (d := d_Block_has) rfl)
theorem b_Block_has (T : TX K mg) : Binds K (fdO K (f_Block_has K)) ["self", "cell"] [] := (F_Block_has T).bindsN fun _ _ _ _ _ _ us hl => match us, hl with | [_, _], _ => rfl
abbrev f_Block_size (K : PySem.W.Frag) : Addr := (He.ma K (He.ga K "Block") "size")
theorem F_Block_size (T : TX K mg) : FunD K "size" "Block.size" (defArgs s_Block_size) (defBody s_Block_size) (defScope s_Block_size) [] [] (f_Block_size K) (fdO K (f_Block_size K)) := fdO_of (T.def_ 16 (d := d_Block_size) rfl)
theorem b_Block_size (T : TX K mg) : Binds K (fdO K (f_Block_size K)) ["self"] [] := (F_Block_size T).bindsN fun _ _ _ _ _ _ us hl => match us, hl with | [_], _ => rfl
abbrev f_row_text (K : PySem.W.Frag) : Addr := (He.ga K "row_text")
theorem F_row_text (T : TX K mg) : FunD K "row_text" "row_text" (defArgs s_row_text) (defBody s_row_text) (defScope s_row_text) [] [] (f_row_text K) (fdO K (f_row_text K)) := fdO_of (T.def_ 17 (d := d_row_text) rfl)
theorem b_row_text (T : TX K mg) : Binds K (fdO K (f_row_text K)) ["number"] [] := (F_row_text T).bindsN fun _ _ _ _ _ _ us hl => match us, hl with | [_], _ => rfl
abbrev f_column_text (K : PySem.W.Frag) : Addr := (He.ga K "column_text")
theorem F_column_text (T : TX K mg) : FunD K "column_text" "column_text" (defArgs s_column_text) (defBody s_column_text) (defScope s_column_text) [] [] (f_column_text K) (fdO K (f_column_text K)) := fdO_of (T.def_ 18 (d := d_column_text) rfl)
theorem b_column_text (T : TX K mg) : Binds K (fdO K (f_column_text K)) ["number"] [] := (F_column_text T).bindsN fun _ _ _ _ _ _ us hl => match us, hl with | [_], _ => rfl
abbrev f_is_at (K : PySem.W.Frag) : Addr := (He.ga K "is_at")
theorem F_is_at (T : TX K mg) : FunD K "is_at" "is_at" (defArgs s_is_at) (defBody s_is_at) (defScope s_is_at) [] [] (f_is_at K) (fdO K (f_is_at K)) := fdO_of (T.def_ 19 (d := d_is_at) rfl)
theorem b_is_at (T : TX K mg) : Binds K (fdO K (f_is_at K)) ["first", "last", "number"] [] := (F_is_at T).bindsN fun _ _ _ _ _ _ us hl => match us, hl with | [_, _, _], _ => rfl
abbrev f_stretches (K : PySem.W.Frag) : Addr := (He.ga K "stretches")
theorem F_stretches (T : TX K mg) : FunD K "stretches" "stretches" (defArgs s_stretches) (defBody s_stretches) (defScope s_stretches) [] [] (f_stretches K) (fdO K (f_stretches K)) := fdO_of (T.def_ 20 (d := d_stretches) rfl)
theorem b_stretches (T : TX K mg) : Binds K (fdO K (f_stretches K)) ["cuts"] [] := (F_stretches T).bindsN fun _ _ _ _ _ _ us hl => match us, hl with | [_], _ => rfl
abbrev f_cuts_of (K : PySem.W.Frag) : Addr := (He.ga K "cuts_of")
theorem F_cuts_of (T : TX K mg) : FunD K "cuts_of" "cuts_of" (defArgs s_cuts_of) (defBody s_cuts_of) (defScope s_cuts_of) [] [] (f_cuts_of K) (fdO K (f_cuts_of K)) := fdO_of (T.def_ 21 (d := d_cuts_of) rfl)
theorem b_cuts_of (T : TX K mg) : Binds K (fdO K (f_cuts_of K)) ["ends"] [] := (F_cuts_of T).bindsN fun _ _ _ _ _ _ us hl => match us, hl with | [_], _ => rfl
abbrev f_with_run (K : PySem.W.Frag) : Addr := (He.ga K "with_run")
theorem F_with_run (T : TX K mg) : FunD K "with_run" "with_run" (defArgs s_with_run) (defBody s_with_run) (defScope s_with_run) [] [] (f_with_run K) (fdO K (f_with_run K)) := fdO_of (T.def_ 22 (d := d_with_run) rfl)
theorem b_with_run (T : TX K mg) : Binds K (fdO K (f_with_run K)) ["runs", "first", "last"] [] := (F_with_run T).bindsN fun _ _ _ _ _ _ us hl => match us, hl with | [_, _, _], _ => rfl
abbrev f_runs_by (K : PySem.W.Frag) : Addr := (He.ga K "runs_by")
theorem F_runs_by (T : TX K mg) : FunD K "runs_by" "runs_by" (defArgs s_runs_by) (defBody s_runs_by) (defScope s_runs_by) [] [] (f_runs_by K) (fdO K (f_runs_by K)) := fdO_of (T.def_ 23 (d := d_runs_by) rfl)
theorem b_runs_by (T : TX K mg) : Binds K (fdO K (f_runs_by K)) ["one", "other", "keeps"] [] := (F_runs_by T).bindsN fun _ _ _ _ _ _ us hl => match us, hl with | [_, _, _], _ => rfl
abbrev f_columns_at (K : PySem.W.Frag) : Addr := (He.ga K "columns_at")
theorem F_columns_at (T : TX K mg) : FunD K "columns_at" "columns_at" (defArgs s_columns_at) (defBody s_columns_at) (defScope s_columns_at) [] [] (f_columns_at K) (fdO K (f_columns_at K)) := fdO_of (T.def_ 24 (d := d_columns_at) rfl)
theorem b_columns_at (T : TX K mg) : Binds K (fdO K (f_columns_at K)) ["blocks", "row"] [] := (F_columns_at T).bindsN fun _ _ _ _ _ _ us hl => match us, hl with | [_, _], _ => rfl
abbrev f_bands_by (K : PySem.W.Frag) : Addr := (He.ga K "bands_by")
theorem F_bands_by (T : TX K mg) : FunD K "bands_by" "bands_by" (defArgs s_bands_by) (defBody s_bands_by) (defScope s_bands_by) [] [] (f_bands_by K) (fdO K (f_bands_by K)) := fdO_of (T.def_ 25 (d := d_bands_by) rfl)
theorem b_bands_by (T : TX K mg) : Binds K (fdO K (f_bands_by K)) ["one", "other", "keeps"] [] := (F_bands_by T).bindsN fun _ _ _ _ _ _ us hl => match us, hl with | [_, _, _], _ => rfl
abbrev f_form_of (K : PySem.W.Frag) : Addr := (He.ga K "form_of")
theorem F_form_of (T : TX K mg) : FunD K "form_of" "form_of" (defArgs s_form_of) (defBody s_form_of) (defScope s_form_of) [] [] (f_form_of K) (fdO K (f_form_of K)) := fdO_of (T.def_ 26 (d := d_form_of) rfl)
theorem b_form_of (T : TX K mg) : Binds K (fdO K (f_form_of K)) ["bands"] [] := (F_form_of T).bindsN fun _ _ _ _ _ _ us hl => match us, hl with | [_], _ => rfl
abbrev f_first_cell (K : PySem.W.Frag) : Addr := (He.ga K "first_cell")
theorem F_first_cell (T : TX K mg) : FunD K "first_cell" "first_cell" (defArgs s_first_cell) (defBody s_first_cell) (defScope s_first_cell) [] [] (f_first_cell K) (fdO K (f_first_cell K)) := fdO_of (T.def_ 27 (d := d_first_cell) rfl)
theorem b_first_cell (T : TX K mg) : Binds K (fdO K (f_first_cell K)) ["block"] [] := (F_first_cell T).bindsN fun _ _ _ _ _ _ us hl => match us, hl with | [_], _ => rfl
abbrev f_either (K : PySem.W.Frag) : Addr := (He.ga K "either")
theorem F_either (T : TX K mg) : FunD K "either" "either" (defArgs s_either) (defBody s_either) (defScope s_either) [] [] (f_either K) (fdO K (f_either K)) := fdO_of (T.def_ 28 (d := d_either) rfl)
theorem b_either (T : TX K mg) : Binds K (fdO K (f_either K)) ["one", "other"] [] := (F_either T).bindsN fun _ _ _ _ _ _ us hl => match us, hl with | [_, _], _ => rfl
abbrev f_one_alone (K : PySem.W.Frag) : Addr := (He.ga K "one_alone")
theorem F_one_alone (T : TX K mg) : FunD K "one_alone" "one_alone" (defArgs s_one_alone) (defBody s_one_alone) (defScope s_one_alone) [] [] (f_one_alone K) (fdO K (f_one_alone K)) := fdO_of (T.def_ 29 (d := d_one_alone) rfl)
theorem b_one_alone (T : TX K mg) : Binds K (fdO K (f_one_alone K)) ["one", "other"] [] := (F_one_alone T).bindsN fun _ _ _ _ _ _ us hl => match us, hl with | [_, _], _ => rfl
abbrev f_checked_blocks (K : PySem.W.Frag) : Addr := (He.ga K "checked_blocks")
theorem F_checked_blocks (T : TX K mg) : FunD K "checked_blocks" "checked_blocks" (defArgs s_checked_blocks) (defBody s_checked_blocks) (defScope s_checked_blocks) [] [] (f_checked_blocks K) (fdO K (f_checked_blocks K)) := fdO_of (T.def_ 30 (d := d_checked_blocks) rfl)
theorem b_checked_blocks (T : TX K mg) : Binds K (fdO K (f_checked_blocks K)) ["blocks"] [] := (F_checked_blocks T).bindsN fun _ _ _ _ _ _ us hl => match us, hl with | [_], _ => rfl
abbrev f_checked_area (K : PySem.W.Frag) : Addr := (He.ga K "checked_area")
theorem F_checked_area (T : TX K mg) : FunD K "checked_area" "checked_area" (defArgs s_checked_area) (defBody s_checked_area) (defScope s_checked_area) [] [] (f_checked_area K) (fdO K (f_checked_area K)) := fdO_of (T.def_ 31 (d := d_checked_area) rfl)
theorem b_checked_area (T : TX K mg) : Binds K (fdO K (f_checked_area K)) ["thing"] [] := (F_checked_area T).bindsN fun _ _ _ _ _ _ us hl => match us, hl with | [_], _ => rfl
abbrev f_moved_ends (K : PySem.W.Frag) : Addr := (He.ga K "moved_ends")
theorem F_moved_ends (T : TX K mg) : FunD K "moved_ends" "moved_ends" (defArgs s_moved_ends) (defBody s_moved_ends) (defScope s_moved_ends) [] [] (f_moved_ends K) (fdO K (f_moved_ends K)) := fdO_of (T.def_ 32 (d := d_moved_ends) rfl)
theorem b_moved_ends (T : TX K mg) : Binds K (fdO K (f_moved_ends K)) ["first", "last", "by"] [] := (F_moved_ends T).bindsN fun _ _ _ _ _ _ us hl => match us, hl with | [_, _, _], _ => rfl
abbrev f_moved_block (K : PySem.W.Frag) : Addr := (He.ga K "moved_block")
theorem F_moved_block (T : TX K mg) : FunD K "moved_block" "moved_block" (defArgs s_moved_block) (defBody s_moved_block) (defScope s_moved_block) [] [] (f_moved_block K) (fdO K (f_moved_block K)) := fdO_of (T.def_ 33 (d := d_moved_block) rfl)
theorem b_moved_block (T : TX K mg) : Binds K (fdO K (f_moved_block K)) ["block", "rows", "columns"] [] := (F_moved_block T).bindsN fun _ _ _ _ _ _ us hl => match us, hl with | [_, _, _], _ => rfl
abbrev f_Area___init__ (K : PySem.W.Frag) : Addr := (He.ma K (He.ga K "Area") "__init__")
theorem F_Area___init__ (T : TX K mg) : FunD K "__init__" "Area.__init__" (defArgs s_Area___init__) (defBody s_Area___init__) (defScope s_Area___init__) [(V.non : V)] [] (f_Area___init__ K) (fdO K (f_Area___init__ K)) := fdO_of (T.def_ 34 (d := d_Area___init__) rfl)
theorem b_Area___init___1 (T : TX K mg) : ∃ ds, Vals [(V.non : V)] ds ∧ Binds K (fdO K (f_Area___init__ K)) ["self", "blocks"] ds := (F_Area___init__ T).binds1 1 0 (by decide) (by decide) fun _ _ _ _ _ _ _ us its hl hi => match us, its, hl, hi with | [_], [_], _, _ => ⟨_, rfl, rfl⟩
theorem b_Area___init___2 (T : TX K mg) : ∃ ds, Vals [] ds ∧ Binds K (fdO K (f_Area___init__ K)) ["self", "blocks"] ds := (F_Area___init__ T).binds1 2 1 (by decide) (by decide) fun _ _ _ _ _ _ _ us its hl hi => match us, its, hl, hi with | [_, _], [_], _, _ => ⟨_, rfl, rfl⟩
abbrev f_Area___eq__ (K : PySem.W.Frag) : Addr := (He.ma K (He.ga K "Area") "__eq__")
theorem F_Area___eq__ (T : TX K mg) : FunD K "__eq__" "Area.__eq__" (defArgs s_Area___eq__) (defBody s_Area___eq__) (defScope s_Area___eq__) [] [] (f_Area___eq__ K) (fdO K (f_Area___eq__ K)) := fdO_of (T.def_ 35 (d := d_Area___eq__) rfl)
theorem b_Area___eq__ (T : TX K mg) : Binds K (fdO K (f_Area___eq__ K)) ["self", "other"] [] := (F_Area___eq__ T).bindsN fun _ _ _ _ _ _ us hl => match us, hl with | [_, _], _ => rfl
abbrev f_Area___len__ (K : PySem.W.Frag) : Addr := (He.ma K (He.ga K "Area") "__len__")
theorem F_Area___len__ (T : TX K mg) : FunD K "__len__" "Area.__len__" (defArgs s_Area___len__) (defBody s_Area___len__) (defScope s_Area___len__) [] [] (f_Area___len__ K) (fdO K (f_Area___len__ K)) := fdO_of (T.def_ 36 (d := d_Area___len__) rfl)
theorem b_Area___len__ (T : TX K mg) : Binds K (fdO K (f_Area___len__ K)) ["self"] [] := (F_Area___len__ T).bindsN fun _ _ _ _ _ _ us hl => match us, hl with | [_], _ => rfl
abbrev f_Area___str__ (K : PySem.W.Frag) : Addr := (He.ma K (He.ga K "Area") "__str__")
theorem F_Area___str__ (T : TX K mg) : FunD K "__str__" "Area.__str__" (defArgs s_Area___str__) (defBody s_Area___str__) (defScope s_Area___str__) [] [] (f_Area___str__ K) (fdO K (f_Area___str__ K)) := fdO_of (T.def_ 37 (d := d_Area___str__) rfl)
theorem b_Area___str__ (T : TX K mg) : Binds K (fdO K (f_Area___str__ K)) ["self"] [] := (F_Area___str__ T).bindsN fun _ _ _ _ _ _ us hl => match us, hl with | [_], _ => rfl
abbrev f_Area___repr__ (K : PySem.W.Frag) : Addr := (He.ma K (He.ga K "Area") "__repr__")
theorem F_Area___repr__ (T : TX K mg) : FunD K "__repr__" "Area.__repr__" (defArgs s_Area___repr__) (defBody s_Area___repr__) (defScope s_Area___repr__) [] [] (f_Area___repr__ K) (fdO K (f_Area___repr__ K)) := fdO_of (T.def_ 38 (d := d_Area___repr__) rfl)
theorem b_Area___repr__ (T : TX K mg) : Binds K (fdO K (f_Area___repr__ K)) ["self"] [] := (F_Area___repr__ T).bindsN fun _ _ _ _ _ _ us hl => match us, hl with | [_], _ => rfl
abbrev f_Area_blocks (K : PySem.W.Frag) : Addr := (He.ma K (He.ga K "Area") "blocks")
theorem F_Area_blocks (T : TX K mg) : FunD K "blocks" "Area.blocks" (defArgs s_Area_blocks) (defBody s_Area_blocks) (defScope s_Area_blocks) [] [] (f_Area_blocks K) (fdO K (f_Area_blocks K)) := fdO_of (T.def_ 39 (d := d_Area_blocks) rfl)
theorem b_Area_blocks (T : TX K mg) : Binds K (fdO K (f_Area_blocks K)) ["self"] [] := (F_Area_blocks T).bindsN fun _ _ _ _ _ _ us hl => match us, hl with | [_], _ => rfl
abbrev f_Area_firsts (K : PySem.W.Frag) : Addr := (He.ma K (He.ga K "Area") "firsts")
theorem F_Area_firsts (T : TX K mg) : FunD K "firsts" "Area.firsts" (defArgs s_Area_firsts) (defBody s_Area_firsts) (defScope s_Area_firsts) [] [] (f_Area_firsts K) (fdO K (f_Area_firsts K)) := fdO_of (T.def_ 40 (d := d_Area_firsts) rfl)
theorem b_Area_firsts (T : TX K mg) : Binds K (fdO K (f_Area_firsts K)) ["self"] [] := (F_Area_firsts T).bindsN fun _ _ _ _ _ _ us hl => match us, hl with | [_], _ => rfl
abbrev f_Area_has (K : PySem.W.Frag) : Addr := (He.ma K (He.ga K "Area") "has")
theorem F_Area_has (T : TX K mg) : FunD K "has" "Area.has" (defArgs s_Area_has) (defBody s_Area_has) (defScope s_Area_has) [] [] (f_Area_has K) (fdO K (f_Area_has K)) := fdO_of (T.def_ 41 (d := d_Area_has) rfl)
theorem b_Area_has (T : TX K mg) : Binds K (fdO K (f_Area_has K)) ["self", "cell"] [] := (F_Area_has T).bindsN fun _ _ _ _ _ _ us hl => match us, hl with | [_, _], _ => rfl
abbrev f_Area_size (K : PySem.W.Frag) : Addr := (He.ma K (He.ga K "Area") "size")
theorem F_Area_size (T : TX K mg) : FunD K "size" "Area.size" (defArgs s_Area_size) (defBody s_Area_size) (defScope s_Area_size) [] [] (f_Area_size K) (fdO K (f_Area_size K)) := fdO_of (T.def_ 42 (d := d_Area_size) rfl)
theorem b_Area_size (T : TX K mg) : Binds K (fdO K (f_Area_size K)) ["self"] [] := (F_Area_size T).bindsN fun _ _ _ _ _ _ us hl => match us, hl with | [_], _ => rfl
abbrev f_Area_by (K : PySem.W.Frag) : Addr := (He.ma K (He.ga K "Area") "by")
theorem F_Area_by (T : TX K mg) : FunD K "by" "Area.by" (defArgs s_Area_by) (defBody s_Area_by) (defScope s_Area_by) [] [] (f_Area_by K) (fdO K (f_Area_by K)) := fdO_of (T.def_ 43 (d := d_Area_by) rfl)
theorem b_Area_by (T : TX K mg) : Binds K (fdO K (f_Area_by K)) ["self", "other", "keeps"] [] := (F_Area_by T).bindsN fun _ _ _ _ _ _ us hl => match us, hl with | [_, _, _], _ => rfl
abbrev f_Area_met (K : PySem.W.Frag) : Addr := (He.ma K (He.ga K "Area") "met")
theorem F_Area_met (T : TX K mg) : FunD K "met" "Area.met" (defArgs s_Area_met) (defBody s_Area_met) (defScope s_Area_met) [] [] (f_Area_met K) (fdO K (f_Area_met K)) := fdO_of (T.def_ 44 (d := d_Area_met) rfl)
theorem b_Area_met (T : TX K mg) : Binds K (fdO K (f_Area_met K)) ["self", "other"] [] := (F_Area_met T).bindsN fun _ _ _ _ _ _ us hl => match us, hl with | [_, _], _ => rfl
abbrev f_Area_joined (K : PySem.W.Frag) : Addr := (He.ma K (He.ga K "Area") "joined")
theorem F_Area_joined (T : TX K mg) : FunD K "joined" "Area.joined" (defArgs s_Area_joined) (defBody s_Area_joined) (defScope s_Area_joined) [] [] (f_Area_joined K) (fdO K (f_Area_joined K)) := fdO_of (T.def_ 45 (d := d_Area_joined) rfl)
theorem b_Area_joined (T : TX K mg) : Binds K (fdO K (f_Area_joined K)) ["self", "other"] [] := (F_Area_joined T).bindsN fun _ _ _ _ _ _ us hl => match us, hl with | [_, _], _ => rfl
abbrev f_Area_without (K : PySem.W.Frag) : Addr := (He.ma K (He.ga K "Area") "without")
theorem F_Area_without (T : TX K mg) : FunD K "without" "Area.without" (defArgs s_Area_without) (defBody s_Area_without) (defScope s_Area_without) [] [] (f_Area_without K) (fdO K (f_Area_without K)) := fdO_of (T.def_ 46 (d := d_Area_without) rfl)
theorem b_Area_without (T : TX K mg) : Binds K (fdO K (f_Area_without K)) ["self", "other"] [] := (F_Area_without T).bindsN fun _ _ _ _ _ _ us hl => match us, hl with | [_, _], _ => rfl
abbrev f_Area_others (K : PySem.W.Frag) : Addr := (He.ma K (He.ga K "Area") "others")
theorem F_Area_others (T : TX K mg) : FunD K "others" "Area.others" (defArgs s_Area_others) (defBody s_Area_others) (defScope s_Area_others) [] [] (f_Area_others K) (fdO K (f_Area_others K)) := fdO_of (T.def_ 47 (d := d_Area_others) rfl)
theorem b_Area_others (T : TX K mg) : Binds K (fdO K (f_Area_others K)) ["self"] [] := (F_Area_others T).bindsN fun _ _ _ _ _ _ us hl => match us, hl with | [_], _ => rfl
abbrev f_Area_is_within (K : PySem.W.Frag) : Addr := (He.ma K (He.ga K "Area") "is_within")
theorem F_Area_is_within (T : TX K mg) : FunD K "is_within" "Area.is_within" (defArgs s_Area_is_within) (defBody s_Area_is_within) (defScope s_Area_is_within) [] [] (f_Area_is_within K) (fdO K (f_Area_is_within K)) := fdO_of (T.def_ 48 (d := d_Area_is_within) rfl)
theorem b_Area_is_within (T : TX K mg) : Binds K (fdO K (f_Area_is_within K)) ["self", "other"] [] := (F_Area_is_within T).bindsN fun _ _ _ _ _ _ us hl => match us, hl with | [_, _], _ => rfl
abbrev f_Area_meets (K : PySem.W.Frag) : Addr := (He.ma K (He.ga K "Area") "meets")
theorem F_Area_meets (T : TX K mg) : FunD K "meets" "Area.meets" (defArgs s_Area_meets) (defBody s_Area_meets) (defScope s_Area_meets) [] [] (f_Area_meets K) (fdO K (f_Area_meets K)) := fdO_of (T.def_ 49 (d := d_Area_meets) rfl)
theorem b_Area_meets (T : TX K mg) : Binds K (fdO K (f_Area_meets K)) ["self", "other"] [] := (F_Area_meets T).bindsN fun _ _ _ _ _ _ us hl => match us, hl with | [_, _], _ => rfl
abbrev f_Area_turned (K : PySem.W.Frag) : Addr := (He.ma K (He.ga K "Area") "turned")
theorem F_Area_turned (T : TX K mg) : FunD K "turned" "Area.turned" (defArgs s_Area_turned) (defBody s_Area_turned) (defScope s_Area_turned) [] [] (f_Area_turned K) (fdO K (f_Area_turned K)) := fdO_of (T.def_ 50 (d := d_Area_turned) rfl)
theorem b_Area_turned (T : TX K mg) : Binds K (fdO K (f_Area_turned K)) ["self"] [] := (F_Area_turned T).bindsN fun _ _ _ _ _ _ us hl => match us, hl with | [_], _ => rfl
abbrev f_Area_shifted (K : PySem.W.Frag) : Addr := (He.ma K (He.ga K "Area") "shifted")
theorem F_Area_shifted (T : TX K mg) : FunD K "shifted" "Area.shifted" (defArgs s_Area_shifted) (defBody s_Area_shifted) (defScope s_Area_shifted) [(V.int 0 : V), (V.int 0 : V)] [] (f_Area_shifted K) (fdO K (f_Area_shifted K)) := fdO_of (T.def_ 51 (d := d_Area_shifted) rfl)
theorem b_Area_shifted_1 (T : TX K mg) : ∃ ds, Vals [(V.int 0 : V), (V.int 0 : V)] ds ∧ Binds K (fdO K (f_Area_shifted K)) ["self", "rows", "columns"] ds := (F_Area_shifted T).binds1 1 0 (by decide) (by decide) fun _ _ _ _ _ _ _ us its hl hi => match us, its, hl, hi with | [_], [_, _], _, _ => ⟨_, rfl, rfl⟩
theorem b_Area_shifted_2 (T : TX K mg) : ∃ ds, Vals [(V.int 0 : V)] ds ∧ Binds K (fdO K (f_Area_shifted K)) ["self", "rows", "columns"] ds := (F_Area_shifted T).binds1 2 1 (by decide) (by decide) fun _ _ _ _ _ _ _ us its hl hi => match us, its, hl, hi with | [_, _], [_, _], _, _ => ⟨_, rfl, rfl⟩
theorem b_Area_shifted_3 (T : TX K mg) : ∃ ds, Vals [] ds ∧ Binds K (fdO K (f_Area_shifted K)) ["self", "rows", "columns"] ds := (F_Area_shifted T).binds1 3 2 (by decide) (by decide) fun _ _ _ _ _ _ _ us its hl hi => match us, its, hl, hi with | [_, _, _], [_, _], _, _ => ⟨_, rfl, rfl⟩
abbrev f_Change_checked (K : PySem.W.Frag) : Addr := (He.ma K (He.ga K "Change") "checked")
theorem F_Change_checked (T : TX K mg) : FunD K "checked" "Change.checked" (defArgs s_Change_checked) (defBody s_Change_checked) (defScope s_Change_checked) [] [] (f_Change_checked K) (fdO K (f_Change_checked K)) := fdO_of (T.def_ 52 (d := d_Change_checked) rfl)
theorem b_Change_checked (T : TX K mg) : Binds K (fdO K (f_Change_checked K)) ["self", "numbers"] [] := (F_Change_checked T).bindsN fun _ _ _ _ _ _ us hl => match us, hl with | [_, _], _ => rfl
abbrev f_checked_changes (K : PySem.W.Frag) : Addr := (He.ga K "checked_changes")
theorem F_checked_changes (T : TX K mg) : FunD K "checked_changes" "checked_changes" (defArgs s_checked_changes) (defBody s_checked_changes) (defScope s_checked_changes) [] [] (f_checked_changes K) (fdO K (f_checked_changes K)) := fdO_of (T.def_ 53 (d := d_checked_changes) rfl)
theorem b_checked_changes (T : TX K mg) : Binds K (fdO K (f_checked_changes K)) ["changes"] [] := (F_checked_changes T).bindsN fun _ _ _ _ _ _ us hl => match us, hl with | [_], _ => rfl
abbrev f_area_behind (K : PySem.W.Frag) : Addr := (He.ga K "area_behind")
theorem F_area_behind (T : TX K mg) : FunD K "area_behind" "area_behind" (defArgs s_area_behind) (defBody s_area_behind) (defScope s_area_behind) [] [] (f_area_behind K) (fdO K (f_area_behind K)) := fdO_of (T.def_ 54 (d := d_area_behind) rfl)
theorem b_area_behind (T : TX K mg) : Binds K (fdO K (f_area_behind K)) ["changes", "area"] [] := (F_area_behind T).bindsN fun _ _ _ _ _ _ us hl => match us, hl with | [_, _], _ => rfl
abbrev f_check_value (K : PySem.W.Frag) : Addr := (He.ga K "check_value")
theorem F_check_value (T : TX K mg) : FunD K "check_value" "check_value" (defArgs s_check_value) (defBody s_check_value) (defScope s_check_value) [] [] (f_check_value K) (fdO K (f_check_value K)) := fdO_of (T.def_ 55 (d := d_check_value) rfl)
theorem b_check_value (T : TX K mg) : Binds K (fdO K (f_check_value K)) ["thing"] [] := (F_check_value T).bindsN fun _ _ _ _ _ _ us hl => match us, hl with | [_], _ => rfl
abbrev f_check_sheet (K : PySem.W.Frag) : Addr := (He.ga K "check_sheet")
theorem F_check_sheet (T : TX K mg) : FunD K "check_sheet" "check_sheet" (defArgs s_check_sheet) (defBody s_check_sheet) (defScope s_check_sheet) [] [] (f_check_sheet K) (fdO K (f_check_sheet K)) := fdO_of (T.def_ 56 (d := d_check_sheet) rfl)
theorem b_check_sheet (T : TX K mg) : Binds K (fdO K (f_check_sheet K)) ["thing"] [] := (F_check_sheet T).bindsN fun _ _ _ _ _ _ us hl => match us, hl with | [_], _ => rfl
abbrev f_first_of_part (K : PySem.W.Frag) : Addr := (He.ga K "first_of_part")
theorem F_first_of_part (T : TX K mg) : FunD K "first_of_part" "first_of_part" (defArgs s_first_of_part) (defBody s_first_of_part) (defScope s_first_of_part) [] [] (f_first_of_part K) (fdO K (f_first_of_part K)) := fdO_of (T.def_ 57 (d := d_first_of_part) rfl)
theorem b_first_of_part (T : TX K mg) : Binds K (fdO K (f_first_of_part K)) ["part"] [] := (F_first_of_part T).bindsN fun _ _ _ _ _ _ us hl => match us, hl with | [_], _ => rfl
abbrev f_Sheet___init__ (K : PySem.W.Frag) : Addr := (He.ma K (He.ga K "Sheet") "__init__")
theorem F_Sheet___init__ (T : TX K mg) : FunD K "__init__" "Sheet.__init__" (defArgs s_Sheet___init__) (defBody s_Sheet___init__) (defScope s_Sheet___init__) [] [] (f_Sheet___init__ K) (fdO K (f_Sheet___init__ K)) := fdO_of (T.def_ 58 (d := d_Sheet___init__) rfl)
theorem b_Sheet___init__ (T : TX K mg) : Binds K (fdO K (f_Sheet___init__ K)) ["self"] [] := (F_Sheet___init__ T).bindsN fun _ _ _ _ _ _ us hl => match us, hl with | [_], _ => rfl
abbrev f_Sheet___eq__ (K : PySem.W.Frag) : Addr := (He.ma K (He.ga K "Sheet") "__eq__")
theorem F_Sheet___eq__ (T : TX K mg) : FunD K "__eq__" "Sheet.__eq__" (defArgs s_Sheet___eq__) (defBody s_Sheet___eq__) (defScope s_Sheet___eq__) [] [] (f_Sheet___eq__ K) (fdO K (f_Sheet___eq__ K)) := fdO_of (T.def_ 59 (d := d_Sheet___eq__) rfl)
theorem b_Sheet___eq__ (T : TX K mg) : Binds K (fdO K (f_Sheet___eq__ K)) ["self", "other"] [] := (F_Sheet___eq__ T).bindsN fun _ _ _ _ _ _ us hl => match us, hl with | [_, _], _ => rfl
abbrev f_Sheet___len__ (K : PySem.W.Frag) : Addr := (He.ma K (He.ga K "Sheet") "__len__")
theorem F_Sheet___len__ (T : TX K mg) : FunD K "__len__" "Sheet.__len__" (defArgs s_Sheet___len__) (defBody s_Sheet___len__) (defScope s_Sheet___len__) [] [] (f_Sheet___len__ K) (fdO K (f_Sheet___len__ K)) := fdO_of (T.def_ 60 (d := d_Sheet___len__) rfl)
theorem b_Sheet___len__ (T : TX K mg) : Binds K (fdO K (f_Sheet___len__ K)) ["self"] [] := (F_Sheet___len__ T).bindsN fun _ _ _ _ _ _ us hl => match us, hl with | [_], _ => rfl
abbrev f_Sheet_fill (K : PySem.W.Frag) : Addr := (He.ma K (He.ga K "Sheet") "fill")
theorem F_Sheet_fill (T : TX K mg) : FunD K "fill" "Sheet.fill" (defArgs s_Sheet_fill) (defBody s_Sheet_fill) (defScope s_Sheet_fill) [] [] (f_Sheet_fill K) (fdO K (f_Sheet_fill K)) := fdO_of (T.def_ 61 (d := d_Sheet_fill) rfl)
theorem b_Sheet_fill (T : TX K mg) : Binds K (fdO K (f_Sheet_fill K)) ["self", "area", "value"] [] := (F_Sheet_fill T).bindsN fun _ _ _ _ _ _ us hl => match us, hl with | [_, _, _], _ => rfl
abbrev f_Sheet_hold (K : PySem.W.Frag) : Addr := (He.ma K (He.ga K "Sheet") "hold")
theorem F_Sheet_hold (T : TX K mg) : FunD K "hold" "Sheet.hold" (defArgs s_Sheet_hold) (defBody s_Sheet_hold) (defScope s_Sheet_hold) [] [] (f_Sheet_hold K) (fdO K (f_Sheet_hold K)) := fdO_of (T.def_ 62 (d := d_Sheet_hold) rfl)
theorem b_Sheet_hold (T : TX K mg) : Binds K (fdO K (f_Sheet_hold K)) ["self", "held"] [] := (F_Sheet_hold T).bindsN fun _ _ _ _ _ _ us hl => match us, hl with | [_, _], _ => rfl
abbrev f_Sheet_value (K : PySem.W.Frag) : Addr := (He.ma K (He.ga K "Sheet") "value")
theorem F_Sheet_value (T : TX K mg) : FunD K "value" "Sheet.value" (defArgs s_Sheet_value) (defBody s_Sheet_value) (defScope s_Sheet_value) [] [] (f_Sheet_value K) (fdO K (f_Sheet_value K)) := fdO_of (T.def_ 63 (d := d_Sheet_value) rfl)
theorem b_Sheet_value (T : TX K mg) : Binds K (fdO K (f_Sheet_value K)) ["self", "cell"] [] := (F_Sheet_value T).bindsN fun _ _ _ _ _ _ us hl => match us, hl with | [_, _], _ => rfl
abbrev f_Sheet_where (K : PySem.W.Frag) : Addr := (He.ma K (He.ga K "Sheet") "where")
theorem F_Sheet_where (T : TX K mg) : FunD K "where" "Sheet.where" (defArgs s_Sheet_where) (defBody s_Sheet_where) (defScope s_Sheet_where) [] [] (f_Sheet_where K) (fdO K (f_Sheet_where K)) := fdO_of (T.def_ 64 (d := d_Sheet_where) rfl)
theorem b_Sheet_where (T : TX K mg) : Binds K (fdO K (f_Sheet_where K)) ["self", "value"] [] := (F_Sheet_where T).bindsN fun _ _ _ _ _ _ us hl => match us, hl with | [_, _], _ => rfl
abbrev f_Sheet_told (K : PySem.W.Frag) : Addr := (He.ma K (He.ga K "Sheet") "told")
theorem F_Sheet_told (T : TX K mg) : FunD K "told" "Sheet.told" (defArgs s_Sheet_told) (defBody s_Sheet_told) (defScope s_Sheet_told) [] [] (f_Sheet_told K) (fdO K (f_Sheet_told K)) := fdO_of (T.def_ 65 (d := d_Sheet_told) rfl)
theorem b_Sheet_told (T : TX K mg) : Binds K (fdO K (f_Sheet_told K)) ["self"] [] := (F_Sheet_told T).bindsN fun _ _ _ _ _ _ us hl => match us, hl with | [_], _ => rfl
abbrev f_Sheet_pairs (K : PySem.W.Frag) : Addr := (He.ma K (He.ga K "Sheet") "pairs")
theorem F_Sheet_pairs (T : TX K mg) : FunD K "pairs" "Sheet.pairs" (defArgs s_Sheet_pairs) (defBody s_Sheet_pairs) (defScope s_Sheet_pairs) [] [] (f_Sheet_pairs K) (fdO K (f_Sheet_pairs K)) := fdO_of (T.def_ 66 (d := d_Sheet_pairs) rfl)
theorem b_Sheet_pairs (T : TX K mg) : Binds K (fdO K (f_Sheet_pairs K)) ["self"] [] := (F_Sheet_pairs T).bindsN fun _ _ _ _ _ _ us hl => match us, hl with | [_], _ => rfl
abbrev f_Sheet_change (K : PySem.W.Frag) : Addr := (He.ma K (He.ga K "Sheet") "change")
theorem F_Sheet_change (T : TX K mg) : FunD K "change" "Sheet.change" (defArgs s_Sheet_change) (defBody s_Sheet_change) (defScope s_Sheet_change) [] [] (f_Sheet_change K) (fdO K (f_Sheet_change K)) := fdO_of (T.def_ 67 (d := d_Sheet_change) rfl)
theorem b_Sheet_change (T : TX K mg) : Binds K (fdO K (f_Sheet_change K)) ["self", "change"] [] := (F_Sheet_change T).bindsN fun _ _ _ _ _ _ us hl => match us, hl with | [_, _], _ => rfl
abbrev f_Sheet_laid (K : PySem.W.Frag) : Addr := (He.ma K (He.ga K "Sheet") "laid")
theorem F_Sheet_laid (T : TX K mg) : FunD K "laid" "Sheet.laid" (defArgs s_Sheet_laid) (defBody s_Sheet_laid) (defScope s_Sheet_laid) [(V.int 0 : V), (V.int 0 : V)] [] (f_Sheet_laid K) (fdO K (f_Sheet_laid K)) := fdO_of (T.def_ 68 (d := d_Sheet_laid) rfl)
theorem b_Sheet_laid_2 (T : TX K mg) : ∃ ds, Vals [(V.int 0 : V), (V.int 0 : V)] ds ∧ Binds K (fdO K (f_Sheet_laid K)) ["self", "other", "rows", "columns"] ds := (F_Sheet_laid T).binds1 2 0 (by decide) (by decide) fun _ _ _ _ _ _ _ us its hl hi => match us, its, hl, hi with | [_, _], [_, _], _, _ => ⟨_, rfl, rfl⟩
theorem b_Sheet_laid_3 (T : TX K mg) : ∃ ds, Vals [(V.int 0 : V)] ds ∧ Binds K (fdO K (f_Sheet_laid K)) ["self", "other", "rows", "columns"] ds := (F_Sheet_laid T).binds1 3 1 (by decide) (by decide) fun _ _ _ _ _ _ _ us its hl hi => match us, its, hl, hi with | [_, _, _], [_, _], _, _ => ⟨_, rfl, rfl⟩
theorem b_Sheet_laid_4 (T : TX K mg) : ∃ ds, Vals [] ds ∧ Binds K (fdO K (f_Sheet_laid K)) ["self", "other", "rows", "columns"] ds := (F_Sheet_laid T).binds1 4 2 (by decide) (by decide) fun _ _ _ _ _ _ _ us its hl hi => match us, its, hl, hi with | [_, _, _, _], [_, _], _, _ => ⟨_, rfl, rfl⟩
abbrev f_Sheet_twin (K : PySem.W.Frag) : Addr := (He.ma K (He.ga K "Sheet") "twin")
theorem F_Sheet_twin (T : TX K mg) : FunD K "twin" "Sheet.twin" (defArgs s_Sheet_twin) (defBody s_Sheet_twin) (defScope s_Sheet_twin) [] [] (f_Sheet_twin K) (fdO K (f_Sheet_twin K)) := fdO_of (T.def_ 69 (d := d_Sheet_twin) rfl)
theorem b_Sheet_twin (T : TX K mg) : Binds K (fdO K (f_Sheet_twin K)) ["self"] [] := (F_Sheet_twin T).bindsN fun _ _ _ _ _ _ us hl => match us, hl with | [_], _ => rfl
abbrev f__law_cell_at (K : PySem.W.Frag) : Addr := (He.ga K "_law_cell_at")
theorem F__law_cell_at (T : TX K mg) : FunD K "_law_cell_at" "_law_cell_at" (defArgs s__law_cell_at) (defBody s__law_cell_at) (defScope s__law_cell_at) [] [] (f__law_cell_at K) (fdO K (f__law_cell_at K)) := fdO_of (T.def_ 70 (d := d__law_cell_at) rfl)
theorem b__law_cell_at (T : TX K mg) : Binds K (fdO K (f__law_cell_at K)) ["_law_script", "_law_k"] [] := (F__law_cell_at T).bindsN fun _ _ _ _ _ _ us hl => match us, hl with | [_, _], _ => rfl
abbrev f__law_well (K : PySem.W.Frag) : Addr := (He.ga K "_law_well")
theorem F__law_well (T : TX K mg) : FunD K "_law_well" "_law_well" (defArgs s__law_well) (defBody s__law_well) (defScope s__law_well) [] [] (f__law_well K) (fdO K (f__law_well K)) := fdO_of (T.def_ 71 (d := d__law_well) rfl)
theorem b__law_well (T : TX K mg) : Binds K (fdO K (f__law_well K)) ["_law_cell"] [] := (F__law_well T).bindsN fun _ _ _ _ _ _ us hl => match us, hl with | [_], _ => rfl
abbrev f__law_draw (K : PySem.W.Frag) : Addr := (He.ga K "_law_draw")
theorem F__law_draw (T : TX K mg) : FunD K "_law_draw" "_law_draw" (defArgs s__law_draw) (defBody s__law_draw) (defScope s__law_draw) [] [] (f__law_draw K) (fdO K (f__law_draw K)) := fdO_of (T.def_ 72 (d := d__law_draw) rfl)
theorem b__law_draw (T : TX K mg) : Binds K (fdO K (f__law_draw K)) ["_law_well_here", "_law_many"] [] := (F__law_draw T).bindsN fun _ _ _ _ _ _ us hl => match us, hl with | [_, _], _ => rfl
abbrev f__law_new (K : PySem.W.Frag) : Addr := (He.ga K "_law_new")
theorem F__law_new (T : TX K mg) : FunD K "_law_new" "_law_new" (defArgs s__law_new) (defBody s__law_new) (defScope s__law_new) [] [] (f__law_new K) (fdO K (f__law_new K)) := fdO_of (T.def_ 73 (d := d__law_new) rfl)
theorem b__law_new (T : TX K mg) : Binds K (fdO K (f__law_new K)) [] [] := (F__law_new T).bindsN fun _ _ _ _ _ _ us hl => match us, hl with | [], _ => rfl
abbrev f__law_in (K : PySem.W.Frag) : Addr := (He.ga K "_law_in")
theorem F__law_in (T : TX K mg) : FunD K "_law_in" "_law_in" (defArgs s__law_in) (defBody s__law_in) (defScope s__law_in) [] [] (f__law_in K) (fdO K (f__law_in K)) := fdO_of (T.def_ 74 (d := d__law_in) rfl)
theorem b__law_in (T : TX K mg) : Binds K (fdO K (f__law_in K)) ["_law_block_here", "_law_cell"] [] := (F__law_in T).bindsN fun _ _ _ _ _ _ us hl => match us, hl with | [_, _], _ => rfl
abbrev f__law_back (K : PySem.W.Frag) : Addr := (He.ga K "_law_back")
theorem F__law_back (T : TX K mg) : FunD K "_law_back" "_law_back" (defArgs s__law_back) (defBody s__law_back) (defScope s__law_back) [] [] (f__law_back K) (fdO K (f__law_back K)) := fdO_of (T.def_ 75 (d := d__law_back) rfl)
theorem b__law_back (T : TX K mg) : Binds K (fdO K (f__law_back K)) ["_law_change", "_law_cell"] [] := (F__law_back T).bindsN fun _ _ _ _ _ _ us hl => match us, hl with | [_, _], _ => rfl
abbrev f__law_value (K : PySem.W.Frag) : Addr := (He.ga K "_law_value")
theorem F__law_value (T : TX K mg) : FunD K "_law_value" "_law_value" (defArgs s__law_value) (defBody s__law_value) (defScope s__law_value) [] [] (f__law_value K) (fdO K (f__law_value K)) := fdO_of (T.def_ 76 (d := d__law_value) rfl)
theorem b__law_value (T : TX K mg) : Binds K (fdO K (f__law_value K)) ["_law_deeds", "_law_cell"] [] := (F__law_value T).bindsN fun _ _ _ _ _ _ us hl => match us, hl with | [_, _], _ => rfl
abbrev f__law_with (K : PySem.W.Frag) : Addr := (He.ga K "_law_with")
theorem F__law_with (T : TX K mg) : FunD K "_law_with" "_law_with" (defArgs s__law_with) (defBody s__law_with) (defScope s__law_with) [] [] (f__law_with K) (fdO K (f__law_with K)) := fdO_of (T.def_ 77 (d := d__law_with) rfl)
theorem b__law_with (T : TX K mg) : Binds K (fdO K (f__law_with K)) ["_law_mine", "_law_deed", "_law_rows", "_law_columns"] [] := (F__law_with T).bindsN fun _ _ _ _ _ _ us hl => match us, hl with | [_, _, _, _], _ => rfl
abbrev f__law_filled (K : PySem.W.Frag) : Addr := (He.ga K "_law_filled")
theorem F__law_filled (T : TX K mg) : FunD K "_law_filled" "_law_filled" (defArgs s__law_filled) (defBody s__law_filled) (defScope s__law_filled) [] [] (f__law_filled K) (fdO K (f__law_filled K)) := fdO_of (T.def_ 78 (d := d__law_filled) rfl)
theorem b__law_filled (T : TX K mg) : Binds K (fdO K (f__law_filled K)) ["_law_mine", "_law_blocks", "_law_value_here"] [] := (F__law_filled T).bindsN fun _ _ _ _ _ _ us hl => match us, hl with | [_, _, _], _ => rfl
abbrev f__law_runs (K : PySem.W.Frag) : Addr := (He.ga K "_law_runs")
theorem F__law_runs (T : TX K mg) : FunD K "_law_runs" "_law_runs" (defArgs s__law_runs) (defBody s__law_runs) (defScope s__law_runs) [] [] (f__law_runs K) (fdO K (f__law_runs K)) := fdO_of (T.def_ 79 (d := d__law_runs) rfl)
theorem b__law_runs (T : TX K mg) : Binds K (fdO K (f__law_runs K)) ["_law_columns", "_law_truths"] [] := (F__law_runs T).bindsN fun _ _ _ _ _ _ us hl => match us, hl with | [_, _], _ => rfl
abbrev f__law_form (K : PySem.W.Frag) : Addr := (He.ga K "_law_form")
theorem F__law_form (T : TX K mg) : FunD K "_law_form" "_law_form" (defArgs s__law_form) (defBody s__law_form) (defScope s__law_form) [] [] (f__law_form K) (fdO K (f__law_form K)) := fdO_of (T.def_ 80 (d := d__law_form) rfl)
theorem b__law_form (T : TX K mg) : Binds K (fdO K (f__law_form K)) ["_law_rows", "_law_columns", "_law_grid_here", "_law_value_here"] [] := (F__law_form T).bindsN fun _ _ _ _ _ _ us hl => match us, hl with | [_, _, _, _], _ => rfl
abbrev f__law_grid (K : PySem.W.Frag) : Addr := (He.ga K "_law_grid")
theorem F__law_grid (T : TX K mg) : FunD K "_law_grid" "_law_grid" (defArgs s__law_grid) (defBody s__law_grid) (defScope s__law_grid) [] [] (f__law_grid K) (fdO K (f__law_grid K)) := fdO_of (T.def_ 81 (d := d__law_grid) rfl)
theorem b__law_grid (T : TX K mg) : Binds K (fdO K (f__law_grid K)) ["_law_mine"] [] := (F__law_grid T).bindsN fun _ _ _ _ _ _ us hl => match us, hl with | [_], _ => rfl
abbrev f__law_block_told (K : PySem.W.Frag) : Addr := (He.ga K "_law_block_told")
theorem F__law_block_told (T : TX K mg) : FunD K "_law_block_told" "_law_block_told" (defArgs s__law_block_told) (defBody s__law_block_told) (defScope s__law_block_told) [] [] (f__law_block_told K) (fdO K (f__law_block_told K)) := fdO_of (T.def_ 82 (d := d__law_block_told) rfl)
theorem b__law_block_told (T : TX K mg) : Binds K (fdO K (f__law_block_told K)) ["_law_block_here"] [] := (F__law_block_told T).bindsN fun _ _ _ _ _ _ us hl => match us, hl with | [_], _ => rfl
abbrev f__law_in_order (K : PySem.W.Frag) : Addr := (He.ga K "_law_in_order")
theorem F__law_in_order (T : TX K mg) : FunD K "_law_in_order" "_law_in_order" (defArgs s__law_in_order) (defBody s__law_in_order) (defScope s__law_in_order) [] [] (f__law_in_order K) (fdO K (f__law_in_order K)) := fdO_of (T.def_ 83 (d := d__law_in_order) rfl)
theorem b__law_in_order (T : TX K mg) : Binds K (fdO K (f__law_in_order K)) ["_law_pairs"] [] := (F__law_in_order T).bindsN fun _ _ _ _ _ _ us hl => match us, hl with | [_], _ => rfl
abbrev f__law_right (K : PySem.W.Frag) : Addr := (He.ga K "_law_right")
theorem F__law_right (T : TX K mg) : FunD K "_law_right" "_law_right" (defArgs s__law_right) (defBody s__law_right) (defScope s__law_right) [] [] (f__law_right K) (fdO K (f__law_right K)) := fdO_of (T.def_ 84 (d := d__law_right) rfl)
theorem b__law_right (T : TX K mg) : Binds K (fdO K (f__law_right K)) ["_law_sheet", "_law_mine"] [] := (F__law_right T).bindsN fun _ _ _ _ _ _ us hl => match us, hl with | [_, _], _ => rfl
abbrev f__law_block (K : PySem.W.Frag) : Addr := (He.ga K "_law_block")
theorem F__law_block (T : TX K mg) : FunD K "_law_block" "_law_block" (defArgs s__law_block) (defBody s__law_block) (defScope s__law_block) [] [] (f__law_block K) (fdO K (f__law_block K)) := fdO_of (T.def_ 85 (d := d__law_block) rfl)
theorem b__law_block (T : TX K mg) : Binds K (fdO K (f__law_block K)) ["_law_well_here", "_law_far"] [] := (F__law_block T).bindsN fun _ _ _ _ _ _ us hl => match us, hl with | [_, _], _ => rfl
abbrev f__law_area (K : PySem.W.Frag) : Addr := (He.ga K "_law_area")
theorem F__law_area (T : TX K mg) : FunD K "_law_area" "_law_area" (defArgs s__law_area) (defBody s__law_area) (defScope s__law_area) [] [] (f__law_area K) (fdO K (f__law_area K)) := fdO_of (T.def_ 86 (d := d__law_area) rfl)
theorem b__law_area (T : TX K mg) : Binds K (fdO K (f__law_area K)) ["_law_blocks"] [] := (F__law_area T).bindsN fun _ _ _ _ _ _ us hl => match us, hl with | [_], _ => rfl
abbrev f__law_some (K : PySem.W.Frag) : Addr := (He.ga K "_law_some")
theorem F__law_some (T : TX K mg) : FunD K "_law_some" "_law_some" (defArgs s__law_some) (defBody s__law_some) (defScope s__law_some) [] [] (f__law_some K) (fdO K (f__law_some K)) := fdO_of (T.def_ 87 (d := d__law_some) rfl)
theorem b__law_some (T : TX K mg) : Binds K (fdO K (f__law_some K)) ["_law_well_here", "_law_far"] [] := (F__law_some T).bindsN fun _ _ _ _ _ _ us hl => match us, hl with | [_, _], _ => rfl
abbrev f_law (K : PySem.W.Frag) : Addr := (He.ga K "law")
theorem F_law (T : TX K mg) : FunD K "law" "law" (defArgs s_law) (defBody s_law) (defScope s_law) [] [] (f_law K) (fdO K (f_law K)) := fdO_of (T.def_ 88 (d := d_law) rfl)
theorem b_law (T : TX K mg) : Binds K (fdO K (f_law K)) ["_law_script"] [] := (F_law T).bindsN fun _ _ _ _ _ _ us hl => match us, hl with | [_], _ => rfl
end
end GT


/-! ## PA -/
set_option Elab.async false
set_option linter.all false
set_option maxRecDepth 100000
namespace GT
open PySem PySem.Spec PyProof.Rows L2 G
local macro_rules | `(tactic| walk_at "ex") => `(tactic| first | exact Ex.refl _ | assumption | exact Stm.g (by assumption) | (refine Ex.trans ?_ (Stm.g (by assumption)); walk_at "ex"))
local macro_rules | `(tactic| walk_at "st") => `(tactic| first | exact Stm.refl (by assumption) | assumption | (refine Stm.trans ?_ (by assumption); walk_at "st"))
local macro_rules | `(tactic| walk_at "i") => `(tactic| first | assumption | exact Stm.i (by assumption))
local macro_rules | `(tactic| walk_at "fact") => `(tactic| first | rfl | exact (rfl : V.non = optV none) | exact (rfl : V.int _ = optV (some _)) | assumption)
local macro_rules | `(tactic| walk_at "g") => `(tactic| first
  | with_reducible refine x_seq ?_
  | with_reducible refine x_next ?_
  | with_reducible refine x_asg ?_
  | with_reducible refine x_ret ?_
  | with_reducible refine x_retN ?_
  | with_reducible refine x_drop ?_
  | with_reducible refine x_ifs ?_
  | ((with_reducible refine' x_var ?hv ?_); (case hv => exact rfl))
  | with_reducible refine x_c ?_
  | with_reducible refine x_op ?_
  | with_reducible refine x_un ?_
  | with_reducible refine x_test ?_
  | with_reducible refine x_B ?_
  | with_reducible refine x_bl ?_
  | with_reducible refine x_and ?_
  | with_reducible refine x_or ?_
  | with_reducible refine x_not ?_
  | with_reducible refine x_andV ?_
  | with_reducible refine x_orV ?_
  | with_reducible refine x_notV ?_
  | with_reducible refine x_ife ?_
  | with_reducible refine x_isN ?_
  | with_reducible refine x_notN ?_
  | with_reducible refine x_nil ?_
  | with_reducible refine x_cons ?_
  | with_reducible refine x_cb ?_
  | with_reducible refine x_call ?_
  | ((with_reducible refine' x_callL ?hv ?_); (case hv => exact rfl))
  | with_reducible refine x_gname ?_
  | with_reducible refine x_I0 ?_
  | ((with_reducible refine' x_eq ?hv ?_); (case hv => exact rfl))
  | ((with_reducible refine' x_ne ?hv ?_); (case hv => exact rfl))
  | with_reducible refine x_tupG ?_
  | with_reducible refine x_lstG ?_
  | with_reducible refine x_lc ?_
  | (with_reducible refine x_U ?_)
  | ((with_reducible refine' ite_T ?hv ?_); (case hv => exact rfl))
  | ((with_reducible refine' ite_F ?hv ?_); (case hv => exact rfl))
  | with_reducible refine x_for ?_
  | with_reducible refine x_iEnum ?_
  | with_reducible refine x_iList ?_
  | with_reducible refine x_iTup ?_
  | with_reducible refine x_gcons ?_
  | with_reducible refine x_gnil ?_
  | with_reducible refine x_bm ?_
  | with_reducible refine x_fldG ?_
  | with_reducible refine x_meth ?_
  | with_reducible refine x_sl ?_
  | with_reducible refine x_nopart ?_
  | with_reducible refine x_part ?_
  | with_reducible refine x_int ?_
  | with_reducible refine x_yes ?_
  | with_reducible refine x_isNG ?_
  | with_reducible refine x_notNG ?_
  | fail "no step")
local macro_rules | `(tactic| walk_at "g2") => `(tactic| first
  | with_reducible refine x_sfld ?_
  | with_reducible refine x_make ?_
  | with_reducible refine x_dnew ?_
  | with_reducible refine x_lcT ?_
  | with_reducible refine x_lcS ?_
  | with_reducible refine x_disp ?_
  | with_reducible refine x_pcons ?_
  | with_reducible refine x_pnil ?_
  | with_reducible refine x_dnewK ?_
  | with_reducible refine x_dput ?_
  | with_reducible refine x_gsub ?_
  | with_reducible refine x_dget2 ?_
  | with_reducible refine x_litems ?_
  | with_reducible refine x_bmX ?_
  | with_reducible refine x_ckw ?_
  | with_reducible refine L2Z.x_methS ?_
  | with_reducible refine L2Z.x_methN ?_
  | with_reducible refine x_callSD ?_
  | with_reducible refine x_lcZ ?_
  | walk_at "g")
local macro_rules | `(tactic| walk_at "go") => `(tactic| repeat' walk_at "g2")

section
variable {P : Program} {w : World} {K : PySem.W.Frag} {mg : Str → Option Value} {base : Heap}
/-! ### numbers -/
def isIntV : V → Bool
  | .int _ => true
  | _ => false
/-- what isinstance tells of x, of int and of bool -/
def Knd (K : PySem.W.Frag) (H : Hp) (x : V) : Prop := ∃ t b1 b2, TyX K H x t ∧ PySem.W.kitOne K t (.type "int") = some b1 ∧ PySem.W.kitOne K t (.type "bool") = some b2 ∧ (b1 && !b2) = isIntV x
theorem Knd.int {H : Hp} {i : Int} : Knd K H (.int i) := ⟨_, true, false, .base (.int i), kit_ty (by decide +kernel), kit_ty (by decide +kernel), rfl⟩
def sp_is_whole (K : PySem.W.Frag) : Sp := fun vs H Q _ => ∃ x, vs = [x] ∧ Knd K H x ∧ Q (.bl (isIntV x)) H
theorem sc_is_whole : FnScope ["thing"] ["thing"] (defScope s_is_whole) := ⟨rfl, rfl, rfl, by decide +kernel, rfl, by decide +kernel, by decide +kernel⟩
theorem ok_is_whole (T : TX K mg) : FnOk P w K mg base CX0 1 (f_is_whole K) (fdO K (f_is_whole K)) ["thing"] (sp_is_whole K) := by
  refine (F_is_whole T).ok sc_is_whole (fun vs H Q E h => ?_) (fun cdv A outer s H vs Q E hr h => ?_)
  · obtain ⟨_, rfl, _⟩ := h; rfl
  · obtain ⟨x, rfl, ⟨t, b1, b2, ty, k1, k2, e⟩, k⟩ := h
    refine ⟨_, PSs.nox (pss_one (ps_ret (pe_and (pe_callB (isiK (K := K) (by rfl)) (by rfl) (z_isinstance T) PyProof.Rows.boot_isinstance (pa_cons (pv 0) (pa_cons (pe_bltn (v := .ty "int") (by rfl) (z_int T) (by decide +kernel) rfl) pa_nil))) (pe_one (pe_not (pe_callB (isiK (K := K) (by rfl)) (by rfl) (z_isinstance T) PyProof.Rows.boot_isinstance (pa_cons (pv 0) (pa_cons (pe_bltn (v := .ty "bool") (by rfl) (z_bool T) (by decide +kernel) rfl) pa_nil)))))))), ?_⟩
    repeat' walk_at "g"
    refine ⟨x, _, t, _, b1, rfl, .ty "int", ty, k1, ?_⟩
    refine ⟨b1, rfl, ?_⟩
    refine ite_b2 (fun h1 => ?_) (fun h1 => ?_)
    · repeat' walk_at "g"
      refine ⟨x, _, t, _, b2, rfl, .ty "bool", ty, k2, ?_⟩
      repeat' walk_at "g"
      rw [h1, Bool.true_and] at e
      rw [e]; exact k
    · rw [h1, Bool.false_and] at e
      rw [← e] at k; exact k
def countV : V → Bool
  | .int i => decide (1 ≤ i)
  | _ => false
def sp_is_count (K : PySem.W.Frag) : Sp := fun vs H Q _ => ∃ x, vs = [x] ∧ Knd K H x ∧ Q (.bl (countV x)) H
theorem sc_is_count : FnScope ["thing"] ["thing"] (defScope s_is_count) := ⟨rfl, rfl, rfl, by decide +kernel, rfl, by decide +kernel, by decide +kernel⟩
theorem ok_is_count (T : TX K mg) : FnOk P w K mg base CX0 2 (f_is_count K) (fdO K (f_is_count K)) ["thing"] (sp_is_count K) := by
  refine (F_is_count T).ok sc_is_count (fun vs H Q E h => ?_) (fun cdv A outer s H vs Q E hr h => ?_)
  · obtain ⟨_, rfl, _⟩ := h; rfl
  · obtain ⟨x, rfl, kn, k⟩ := h
    refine ⟨_, PSs.nox (pss_one (ps_ret (pe_and (pe_call (ok_is_whole T) (hr.mono (by decide)) (by rfl) (g_is_whole T) (F_is_whole T).kp (b_is_whole T) .nil pass0 (pa_cons (pv 0) pa_nil)) (pe_one (pe_cmpR op_ge (pv 0) pe_int (nomark _)))))), ?_⟩
    repeat' walk_at "g"
    refine ⟨x, rfl, kn, isIntV x, rfl, ?_⟩
    cases x with
    | int i =>
      repeat' walk_at "g"
      exact k
    | _ =>
      repeat' walk_at "g"
      exact k
def sp_is_end (K : PySem.W.Frag) : Sp := fun vs H Q _ => ∃ (a : Int) (o : Option Int), vs = [.int a, optV o] ∧ Q (.bl (match o with | none => true | some l => decide (1 ≤ l) && decide (a ≤ l))) H
theorem sc_is_end : FnScope ["first", "last"] ["first", "last"] (defScope s_is_end) := ⟨rfl, rfl, rfl, by decide +kernel, rfl, by decide +kernel, by decide +kernel⟩
theorem ok_is_end (T : TX K mg) : FnOk P w K mg base CX0 3 (f_is_end K) (fdO K (f_is_end K)) ["first", "last"] (sp_is_end K) := by
  refine (F_is_end T).ok sc_is_end (fun vs H Q E h => ?_) (fun cdv A outer s H vs Q E hr h => ?_)
  · obtain ⟨_, _, rfl, _⟩ := h; rfl
  · obtain ⟨a, o, rfl, k⟩ := h
    refine ⟨_, PSs.nox (pss_one (ps_ret (pe_or (pe_cmpR op_isNG (pv 1) pe_non (nomark _)) (pe_one (pe_and (pe_call (ok_is_count T) (hr.mono (by decide)) (by rfl) (g_is_count T) (F_is_count T).kp (b_is_count T) .nil pass0 (pa_cons (pv 1) pa_nil)) (pe_one (pe_cmpR op_ge (pv 1) (pv 0) (nomark _)))))))), ?_⟩
    cases o with
    | none =>
      repeat' walk_at "g"
      exact k
    | some l =>
      repeat' walk_at "g"
      refine ⟨_, rfl, Knd.int, ?_⟩
      show ∃ c, V.bl (decide (1 ≤ l)) = .bl c ∧ _
      repeat' walk_at "g"
      refine ite_b2 (fun h1 => ?_) (fun h1 => ?_)
      · repeat' walk_at "g"
        simp only [h1, Bool.true_and] at k
        exact k
      · simp only [h1, Bool.false_and] at k
        exact k
def sp_is_at : Sp := fun vs H Q _ => ∃ a l n, vs = [.int a, optV l, .int n] ∧ Q (.bl (isAt a l n)) H
theorem sc_is_at : FnScope ["first", "last", "number"] ["first", "last", "number"] (defScope s_is_at) := ⟨rfl, rfl, rfl, by decide +kernel, rfl, by decide +kernel, by decide +kernel⟩
theorem ok_is_at (T : TX K mg) : FnOk P w K mg base CX0 1 (f_is_at K) (fdO K (f_is_at K)) ["first", "last", "number"] sp_is_at := by
  refine (F_is_at T).ok sc_is_at (fun vs H Q E h => ?_) (fun cdv A outer s H vs Q E hr h => ?_)
  · obtain ⟨_, _, _, rfl, _⟩ := h; rfl
  · obtain ⟨a, l, n, rfl, k⟩ := h
    refine ⟨_, PSs.nox (pss_one (ps_ret (pe_and (pe_cmpR op_le (pv 0) (pv 2) (nomark _)) (pe_one (pe_or (pe_cmpR op_isNG (pv 1) pe_non (nomark _)) (pe_one (pe_cmpR op_le (pv 2) (pv 1) (nomark _)))))))), ?_⟩
    cases l with
    | none =>
      repeat' walk_at "g"
      refine ite_b2 (fun h1 => ?_) (fun h1 => ?_)
      · repeat' walk_at "g"
        simp only [isAt, h1, Bool.true_and] at k
        exact k
      · simp only [isAt, h1, Bool.false_and] at k
        exact k
    | some l =>
      repeat' walk_at "g"
      refine ite_b2 (fun h1 => ?_) (fun h1 => ?_)
      · repeat' walk_at "g"
        simp only [isAt, h1, Bool.true_and] at k
        exact k
      · simp only [isAt, h1, Bool.false_and] at k
        exact k
end
end GT

/-! ## PB -/
set_option Elab.async false
set_option linter.all false
set_option maxRecDepth 100000
namespace GT
open PySem PySem.Spec PyProof.Rows L2 G
local macro_rules | `(tactic| walk_at "ex") => `(tactic| first | exact Ex.refl _ | assumption | exact Stm.g (by assumption) | (refine Ex.trans ?_ (Stm.g (by assumption)); walk_at "ex"))
local macro_rules | `(tactic| walk_at "st") => `(tactic| first | exact Stm.refl (by assumption) | assumption | (refine Stm.trans ?_ (by assumption); walk_at "st"))
local macro_rules | `(tactic| walk_at "i") => `(tactic| first | assumption | exact Stm.i (by assumption))
local macro_rules | `(tactic| walk_at "fact") => `(tactic| first | rfl | exact (rfl : V.non = optV none) | exact (rfl : V.int _ = optV (some _)) | assumption)
local macro_rules | `(tactic| walk_at "g") => `(tactic| first
  | with_reducible refine x_seq ?_
  | with_reducible refine x_next ?_
  | with_reducible refine x_asg ?_
  | with_reducible refine x_ret ?_
  | with_reducible refine x_retN ?_
  | with_reducible refine x_drop ?_
  | with_reducible refine x_ifs ?_
  | ((with_reducible refine' x_var ?hv ?_); (case hv => exact rfl))
  | with_reducible refine x_c ?_
  | with_reducible refine x_op ?_
  | with_reducible refine x_un ?_
  | with_reducible refine x_test ?_
  | with_reducible refine x_B ?_
  | with_reducible refine x_bl ?_
  | with_reducible refine x_and ?_
  | with_reducible refine x_or ?_
  | with_reducible refine x_not ?_
  | with_reducible refine x_andV ?_
  | with_reducible refine x_orV ?_
  | with_reducible refine x_notV ?_
  | with_reducible refine x_ife ?_
  | with_reducible refine x_isN ?_
  | with_reducible refine x_notN ?_
  | with_reducible refine x_nil ?_
  | with_reducible refine x_cons ?_
  | with_reducible refine x_cb ?_
  | with_reducible refine x_call ?_
  | ((with_reducible refine' x_callL ?hv ?_); (case hv => exact rfl))
  | with_reducible refine x_gname ?_
  | with_reducible refine x_I0 ?_
  | ((with_reducible refine' x_eq ?hv ?_); (case hv => exact rfl))
  | ((with_reducible refine' x_ne ?hv ?_); (case hv => exact rfl))
  | with_reducible refine x_tupG ?_
  | with_reducible refine x_lstG ?_
  | with_reducible refine x_lc ?_
  | (with_reducible refine x_U ?_)
  | ((with_reducible refine' ite_T ?hv ?_); (case hv => exact rfl))
  | ((with_reducible refine' ite_F ?hv ?_); (case hv => exact rfl))
  | with_reducible refine x_for ?_
  | with_reducible refine x_iEnum ?_
  | with_reducible refine x_iList ?_
  | with_reducible refine x_iTup ?_
  | with_reducible refine x_gcons ?_
  | with_reducible refine x_gnil ?_
  | with_reducible refine x_bm ?_
  | with_reducible refine x_fldG ?_
  | with_reducible refine x_meth ?_
  | with_reducible refine x_sl ?_
  | with_reducible refine x_nopart ?_
  | with_reducible refine x_part ?_
  | with_reducible refine x_int ?_
  | with_reducible refine x_yes ?_
  | with_reducible refine x_isNG ?_
  | with_reducible refine x_notNG ?_
  | fail "no step")
local macro_rules | `(tactic| walk_at "g2") => `(tactic| first
  | with_reducible refine x_sfld ?_
  | with_reducible refine x_make ?_
  | with_reducible refine x_dnew ?_
  | with_reducible refine x_lcT ?_
  | with_reducible refine x_lcS ?_
  | with_reducible refine x_disp ?_
  | with_reducible refine x_pcons ?_
  | with_reducible refine x_pnil ?_
  | with_reducible refine x_dnewK ?_
  | with_reducible refine x_dput ?_
  | with_reducible refine x_gsub ?_
  | with_reducible refine x_dget2 ?_
  | with_reducible refine x_litems ?_
  | with_reducible refine x_bmX ?_
  | with_reducible refine x_ckw ?_
  | with_reducible refine L2Z.x_methS ?_
  | with_reducible refine L2Z.x_methN ?_
  | with_reducible refine x_callSD ?_
  | with_reducible refine x_lcZ ?_
  | walk_at "g")
local macro_rules | `(tactic| walk_at "go") => `(tactic| repeat' walk_at "g2")

section
variable {P : Program} {w : World} {K : PySem.W.Frag} {mg : Str → Option Value} {base : Heap}
def sp_stretches : Sp := fun vs H Q _ => ∃ G v xs, vs = [v] ∧ Ex G H ∧ IsL IsI G v xs ∧ xs.length + 1 < scanBound ∧ ∀ G1 H1 r, St G H G1 H1 → IsL IsRn G1 r (stretches xs) → Q r H1
theorem sc_stretches : FnScope ["cuts", "found", "k", "first", "last"] ["cuts"] (defScope s_stretches) := ⟨rfl, rfl, rfl, by decide +kernel, rfl, by decide +kernel, by decide +kernel⟩
theorem ok_stretches (T : TX K mg) : FnOk P w K mg base CX0 1 (f_stretches K) (fdO K (f_stretches K)) ["cuts"] sp_stretches := by
  refine (F_stretches T).ok sc_stretches (fun vs H Q E h => ?_) (fun cdv A outer s H vs Q E hr h => ?_)
  · obtain ⟨_, _, _, rfl, _⟩ := h; rfl
  · obtain ⟨G0, v, xs, rfl, e, hx, hz, k⟩ := h
    refine ⟨_, PSs.nox (pss_cons (ps_set (i := 0) sc_stretches.nd rfl (by first | exact Or.inl rfl | exact Or.inr rfl) (pe_callB (cr_sortedSetA rfl) (by rfl) (z_sorted T) (by decide +kernel) (pa_cons (pe_callTy (cr_setI rfl) (by rfl) (z_set T) (by decide +kernel) (pa_cons (pv 0) pa_nil)) pa_nil)))
      (pss_cons (ps_set (i := 1) sc_stretches.nd rfl (by first | exact Or.inl rfl | exact Or.inr rfl) (pe_lst pa_nil))
      (pss_cons (ps_for PassesOwn.never rfl (pi_enum (by rfl) (z_enumerate T) (pa_cons (pv 0) pa_nil)) (pg_tup (by rfl) (pgs_cons (pg_name (i := 2) sc_stretches.nd rfl (by first | exact Or.inl rfl | exact Or.inr rfl)) (pgs_cons (pg_name (i := 3) sc_stretches.nd rfl (by first | exact Or.inl rfl | exact Or.inr rfl)) pgs_nil))) (pss_cons (ps_set (i := 4) sc_stretches.nd rfl (by first | exact Or.inl rfl | exact Or.inr rfl) pe_non)
      (pss_cons (ps_if (pt_cmpR op_lt (pe_op op_add (pv 2) pe_int) (pe_callB (lenK (K := K) (by rfl)) (by rfl) (z_len T) PySem.boot_len (pa_cons (pv 0) pa_nil)) (nomark _)) (pss_one (ps_set (i := 4) sc_stretches.nd rfl (by first | exact Or.inl rfl | exact Or.inr rfl) (pe_op op_sub (pe_ix (ixLK (K := K) (by rfl)) (pv 0) (pe_op op_add (pv 2) pe_int) (fun _ _ => rfl)) pe_int))) pss_nil)
      (pss_one (ps_expr (pe_bm PySem.F.plainAttrs_list PySem.F.slot_list_append PySem.F.type_list_append mt_append (pv 1) (pa_cons (pe_tup (pa_cons (pv 3) (pa_cons (pv 4) pa_nil))) pa_nil)))))))
      (pss_one (ps_ret (pv 1)))))), ?_⟩
    repeat' walk_at "g"
    refine x_setI hx e hz fun p1 H1 c s1 g1 => ?_
    repeat' walk_at "g"
    refine x_sortedSet (G := G0) g1 s1.i fun p2 Ga Ha s2 hL => ?_
    repeat' walk_at "g"
    refine lstM s2.i (Nat.zero_le _) fun pf H3 hpf s3 m3 => ?_
    repeat' walk_at "g"
    have hlen : (stretches xs).length = (sd xs).length := strOf_len _
    refine enumG (R := IsI) IsI.mono (xs := sd xs) (G := Ga) hL s3.i (fun i σ' G' H' => ∃ v1 v2 v3 acc, σ' = [some (.ref p2), some (.ref pf), v1, v2, v3] ∧ Stm [pf] Ga H3 G' H' ∧ Mu G' H' pf (.lst acc) ∧ Paired (IsRn G') acc ((stretches xs).take i))
      ⟨none, none, none, [], rfl, Stm.refl s3.i, m3, .nil⟩ (fun i σ' G' H' _ ⟨_, _, _, _, _, s, _, _⟩ => ⟨s.g, s.i⟩) ?_ ?_
    · rintro i x w' σ1 G1 H1 T G2 H2 hi ⟨v1, v2, v3, acc, rfl, sA, mA, pA⟩ rfl s5 hT
      have hil : i < (sd xs).length := (List.getElem?_eq_some_iff.mp hi).1
      have mB := s5.mu mA
      have pB := paired_imp (fun a b q => IsRn.mono _ _ a b s5.g q) pA
      have hacc : acc.length < sizeLine := by
        rw [paired_len pA, List.length_take, hlen]
        have := sd_len xs
        have : scanBound ≤ sizeLine := by decide
        omega
      have hs : (stretches xs)[i]? = some (x, ((sd xs)[i + 1]?).map (· - 1)) := strOf_at (sd xs) i x hi
      refine x_gtup hT rfl ?_
      repeat' walk_at "g"
      refine lenL (G := Ga) hL (sA.g.trans s5.g |>.trans s5.i) ?_
      repeat' walk_at "g"
      refine ite_b2 (fun h1 => ?_) (fun h1 => ?_)
      · have h1' := of_decide_eq_true h1
        have hi1 : i + 1 < (sd xs).length := by omega
        repeat' walk_at "g"
        refine x_ixL (G := Ga) (j := i + 1) hL (sA.g.trans s5.g |>.trans s5.i) (List.getElem?_eq_getElem hi1) (by omega) fun w2 hw2 => ?_
        cases hw2
        repeat' walk_at "g"
        refine ⟨x_tyL mB, ?_⟩
        repeat' walk_at "g"
        refine tupI s5.i (by show 2 ≤ 1000; decide) fun pt G3 H4 s6 ht => ?_
        repeat' walk_at "g"
        refine x_app (s6.mu mB) s6.i hacc fun H5 s7 m7 => ?_
        repeat' walk_at "g"
        refine ⟨G3, _, _, _, _, rfl, (sA.trans (St.up s5)).trans ((St.up s6).trans s7), m7, ?_⟩
        rw [take_more hs, List.getElem?_eq_getElem hi1]
        exact paired_snoc ⟨pt, _, _, rfl, ht, rfl, rfl⟩ (paired_imp (fun a b q => IsRn.mono _ _ a b s6.g q) pB)
      · have h1' := of_decide_eq_false h1
        repeat' walk_at "g"
        refine ⟨x_tyL mB, ?_⟩
        repeat' walk_at "g"
        refine tupI s5.i (by show 2 ≤ 1000; decide) fun pt G3 H4 s6 ht => ?_
        repeat' walk_at "g"
        refine x_app (s6.mu mB) s6.i hacc fun H5 s7 m7 => ?_
        repeat' walk_at "g"
        refine ⟨G3, _, _, _, _, rfl, (sA.trans (St.up s5)).trans ((St.up s6).trans s7), m7, ?_⟩
        rw [take_more hs, List.getElem?_eq_none (show (sd xs).length ≤ i + 1 by omega)]
        exact paired_snoc ⟨pt, _, _, rfl, ht, rfl, rfl⟩ (paired_imp (fun a b q => IsRn.mono _ _ a b s6.g q) pB)
    · rintro σ' G' H' ⟨v1, v2, v3, acc, rfl, sA, mA, pA⟩
      rw [← hlen, List.take_length] at pA
      obtain ⟨s8, g8⟩ := freeze mA sA.i
      repeat' walk_at "g"
      refine k (upd G' pf (.lst acc)) H' (.ref pf) ?_ ⟨pf, acc, rfl, g8, paired_imp (fun a b q => IsRn.mono _ _ a b s8.g q) pA⟩
      exact (s1.trans s2).trans (Stm.fresh (Stm.refl s2.i) ((St.up s3).trans (sA.trans s8)) fun a ha => by rw [List.mem_singleton.mp ha]; exact hpf)
end
end GT

/-! ## PC -/
set_option Elab.async false
set_option linter.all false
set_option maxRecDepth 100000
namespace GT
open PySem PySem.Spec PyProof.Rows L2 G
local macro_rules | `(tactic| walk_at "ex") => `(tactic| first | exact Ex.refl _ | assumption | exact Stm.g (by assumption) | (refine Ex.trans ?_ (Stm.g (by assumption)); walk_at "ex"))
local macro_rules | `(tactic| walk_at "st") => `(tactic| first | exact Stm.refl (by assumption) | assumption | (refine Stm.trans ?_ (by assumption); walk_at "st"))
local macro_rules | `(tactic| walk_at "i") => `(tactic| first | assumption | exact Stm.i (by assumption))
local macro_rules | `(tactic| walk_at "fact") => `(tactic| first | rfl | exact (rfl : V.non = optV none) | exact (rfl : V.int _ = optV (some _)) | assumption)
local macro_rules | `(tactic| walk_at "g") => `(tactic| first
  | with_reducible refine x_seq ?_
  | with_reducible refine x_next ?_
  | with_reducible refine x_asg ?_
  | with_reducible refine x_ret ?_
  | with_reducible refine x_retN ?_
  | with_reducible refine x_drop ?_
  | with_reducible refine x_ifs ?_
  | ((with_reducible refine' x_var ?hv ?_); (case hv => exact rfl))
  | with_reducible refine x_c ?_
  | with_reducible refine x_op ?_
  | with_reducible refine x_un ?_
  | with_reducible refine x_test ?_
  | with_reducible refine x_B ?_
  | with_reducible refine x_bl ?_
  | with_reducible refine x_and ?_
  | with_reducible refine x_or ?_
  | with_reducible refine x_not ?_
  | with_reducible refine x_andV ?_
  | with_reducible refine x_orV ?_
  | with_reducible refine x_notV ?_
  | with_reducible refine x_ife ?_
  | with_reducible refine x_isN ?_
  | with_reducible refine x_notN ?_
  | with_reducible refine x_nil ?_
  | with_reducible refine x_cons ?_
  | with_reducible refine x_cb ?_
  | with_reducible refine x_call ?_
  | ((with_reducible refine' x_callL ?hv ?_); (case hv => exact rfl))
  | with_reducible refine x_gname ?_
  | with_reducible refine x_I0 ?_
  | ((with_reducible refine' x_eq ?hv ?_); (case hv => exact rfl))
  | ((with_reducible refine' x_ne ?hv ?_); (case hv => exact rfl))
  | with_reducible refine x_tupG ?_
  | with_reducible refine x_lstG ?_
  | with_reducible refine x_lc ?_
  | (with_reducible refine x_U ?_)
  | ((with_reducible refine' ite_T ?hv ?_); (case hv => exact rfl))
  | ((with_reducible refine' ite_F ?hv ?_); (case hv => exact rfl))
  | with_reducible refine x_for ?_
  | with_reducible refine x_iEnum ?_
  | with_reducible refine x_iList ?_
  | with_reducible refine x_iTup ?_
  | with_reducible refine x_gcons ?_
  | with_reducible refine x_gnil ?_
  | with_reducible refine x_bm ?_
  | with_reducible refine x_fldG ?_
  | with_reducible refine x_meth ?_
  | with_reducible refine x_sl ?_
  | with_reducible refine x_nopart ?_
  | with_reducible refine x_part ?_
  | with_reducible refine x_int ?_
  | with_reducible refine x_yes ?_
  | with_reducible refine x_isNG ?_
  | with_reducible refine x_notNG ?_
  | fail "no step")
local macro_rules | `(tactic| walk_at "g2") => `(tactic| first
  | with_reducible refine x_sfld ?_
  | with_reducible refine x_make ?_
  | with_reducible refine x_dnew ?_
  | with_reducible refine x_lcT ?_
  | with_reducible refine x_lcS ?_
  | with_reducible refine x_disp ?_
  | with_reducible refine x_pcons ?_
  | with_reducible refine x_pnil ?_
  | with_reducible refine x_dnewK ?_
  | with_reducible refine x_dput ?_
  | with_reducible refine x_gsub ?_
  | with_reducible refine x_dget2 ?_
  | with_reducible refine x_litems ?_
  | with_reducible refine x_bmX ?_
  | with_reducible refine x_ckw ?_
  | with_reducible refine L2Z.x_methS ?_
  | with_reducible refine L2Z.x_methN ?_
  | with_reducible refine x_callSD ?_
  | with_reducible refine x_lcZ ?_
  | walk_at "g")
local macro_rules | `(tactic| walk_at "go") => `(tactic| repeat' walk_at "g2")

section
variable {P : Program} {w : World} {K : PySem.W.Frag} {mg : Str → Option Value} {base : Heap}
/-! ### a block's fields -/
section
variable {G H : Hp} {v : V} {b : Blk} {Q : VK}
theorem fB_top (T : TX K mg) (hb : IsBlk K G v b) (e : Ex G H) (h : Q (.int b.t) H) : FldGo K "top" v H Q := by
  obtain ⟨p, dx, rfl, hp⟩ := hb; exact fldG (e _ _ hp) (k_Block T) (n_Block_top T) (blkF_top b) h
theorem fB_left (T : TX K mg) (hb : IsBlk K G v b) (e : Ex G H) (h : Q (.int b.l) H) : FldGo K "left" v H Q := by
  obtain ⟨p, dx, rfl, hp⟩ := hb; exact fldG (e _ _ hp) (k_Block T) (n_Block_left T) (blkF_left b) h
theorem fB_bottom (T : TX K mg) (hb : IsBlk K G v b) (e : Ex G H) (h : Q (optV b.b) H) : FldGo K "bottom" v H Q := by
  obtain ⟨p, dx, rfl, hp⟩ := hb; exact fldG (e _ _ hp) (k_Block T) (n_Block_bottom T) (blkF_bottom b) h
theorem fB_right (T : TX K mg) (hb : IsBlk K G v b) (e : Ex G H) (h : Q (optV b.r) H) : FldGo K "right" v H Q := by
  obtain ⟨p, dx, rfl, hp⟩ := hb; exact fldG (e _ _ hp) (k_Block T) (n_Block_right T) (blkF_right b) h
end
theorem cuts_ends : ∀ xs : List Rn, ((xs.filter fun x => x.2.isSome).map fun x => x.2.getD 0 + 1) = xs.filterMap fun x => x.2.map (· + 1)
  | [] => rfl
  | (a, none) :: r => by simpa using cuts_ends r
  | (a, some b) :: r => by simpa using cuts_ends r
def sp_cuts_of : Sp := fun vs H Q _ => ∃ G v xs, vs = [v] ∧ Ex G H ∧ IsL IsRn G v xs ∧ xs.length ≤ 1500 ∧ ∀ G1 H1 r, St G H G1 H1 → IsL IsI G1 r (cutsOf xs) → Q r H1
theorem sc_cuts_of : FnScope ["ends", "first", "last"] ["ends"] (defScope s_cuts_of) := ⟨rfl, rfl, rfl, by decide +kernel, rfl, by decide +kernel, by decide +kernel⟩
theorem ok_cuts_of (T : TX K mg) : FnOk P w K mg base CX0 1 (f_cuts_of K) (fdO K (f_cuts_of K)) ["ends"] sp_cuts_of := by
  refine (F_cuts_of T).ok sc_cuts_of (fun vs H Q E h => ?_) (fun cdv A outer s H vs Q E hr h => ?_)
  · obtain ⟨_, _, _, rfl, _⟩ := h; rfl
  · obtain ⟨G0, v, xs, rfl, e, hx, hz, k⟩ := h
    have hz' : xs.length < sizeLine := Nat.lt_of_le_of_lt hz (by decide)
    refine ⟨_, PSs.nox (pss_one (ps_ret (pe_op op_cat (pe_lc (own := [("first", 1), ("last", 2)]) (g := gTup K 2 (gCons (gName 1) (gCons (gName 2) gNil))) (by rfl) sc_cuts_of.nd (pi_list (pv 0)) (blkOk_by (own := [("first", 1), ("last", 2)]) (N := ["ends", "first", "last"]) (sc := defScope s_cuts_of) (by decide +kernel)) (fun _ _ _ _ _ => (pg_tup (by rfl) (pgs_cons (pg_name (i := 1) sc_cuts_of.nd rfl (by first | exact Or.inl rfl | exact Or.inr rfl)) (pgs_cons (pg_name (i := 2) sc_cuts_of.nd rfl (by first | exact Or.inl rfl | exact Or.inr rfl)) pgs_nil)))) (fun _ _ _ _ _ => pts_nil) (fun _ _ _ _ _ => (pv 1))) (pe_lc (own := [("first", 1), ("last", 2)]) (g := gTup K 2 (gCons (gName 1) (gCons (gName 2) gNil))) (by rfl) sc_cuts_of.nd (pi_list (pv 0)) (blkOk_by (own := [("first", 1), ("last", 2)]) (N := ["ends", "first", "last"]) (sc := defScope s_cuts_of) (by decide +kernel)) (fun _ _ _ _ _ => (pg_tup (by rfl) (pgs_cons (pg_name (i := 1) sc_cuts_of.nd rfl (by first | exact Or.inl rfl | exact Or.inr rfl)) (pgs_cons (pg_name (i := 2) sc_cuts_of.nd rfl (by first | exact Or.inl rfl | exact Or.inr rfl)) pgs_nil)))) (fun _ _ _ _ _ => (pts_one (pt_cmpR op_notNG (pv 2) pe_non (nomark _)))) (fun _ _ _ _ _ => (pe_op op_add (pv 2) pe_int)))))), ?_⟩
    repeat' walk_at "g"
    refine lcG (R := IsRn) (S := IsI) IsRn.mono IsI.mono (fun _ => true) (fun x => x.1) e hx hz' (fun x w' G1 H1 N0 N1 _ s1 hw n0 n1 => ?_) fun G1 H1 D s1 hD => ?_
    · refine x_gtup2 hw s1.i fun y z hy hz => ⟨rfl, ?_⟩
      repeat' walk_at "g"
      exact n1 _ _ _ (Stm.refl s1.i) hy rfl
    · repeat' walk_at "g"
      refine lcG (R := IsRn) (S := IsI) IsRn.mono IsI.mono (fun x => x.2.isSome) (fun x => x.2.getD 0 + 1) s1.i (IsL.mono IsRn.mono _ _ _ _ s1.g hx) hz' (fun x w' G2 H2 N0 N1 _ s2 hw n0 n1 => ?_) fun G2 H2 D2 s2 hD2 => ?_
      · refine x_gtup2 hw s2.i fun y z hy hz => ⟨rfl, ?_⟩
        obtain ⟨x1, x2⟩ := x
        cases hy
        cases hz
        cases x2 with
        | none =>
          repeat' walk_at "g"
          exact n0 _ _ (Stm.refl s2.i) rfl
        | some i =>
          repeat' walk_at "g"
          exact n1 _ _ _ (Stm.refl s2.i) rfl rfl
      · have hl : ((xs.filter fun _ => true).map fun x => x.1).length + ((xs.filter fun x => x.2.isSome).map fun x => x.2.getD 0 + 1).length ≤ sizeLine := by
          have h1 := List.length_filter_le (fun _ : Rn => true) xs
          have h2 := List.length_filter_le (fun x : Rn => x.2.isSome) xs
          have : 3000 ≤ sizeLine := by decide
          rw [List.length_map, List.length_map]; omega
        refine catL IsI.mono (IsL.mono IsI.mono _ _ _ _ s2.g hD) hD2 s2.i hl fun p G3 H3 s3 h3 => ?_
        refine k G3 H3 _ ((s1.trans s2).trans s3) ?_
        have e1 : (xs.filter fun _ => true) = xs := by simp
        have e2 : ((xs.filter fun x => x.2.isSome).map fun x => x.2.getD 0 + 1) = xs.filterMap fun x => x.2.map (· + 1) := by
          exact cuts_ends xs
        rw [e1, e2] at h3
        exact h3
end
end GT

/-! ## PD -/
set_option Elab.async false
set_option linter.all false
set_option maxRecDepth 100000
namespace GT
open PySem PySem.Spec PyProof.Rows L2 G
local macro_rules | `(tactic| walk_at "ex") => `(tactic| first | exact Ex.refl _ | assumption | exact Stm.g (by assumption) | (refine Ex.trans ?_ (Stm.g (by assumption)); walk_at "ex"))
local macro_rules | `(tactic| walk_at "st") => `(tactic| first | exact Stm.refl (by assumption) | assumption | (refine Stm.trans ?_ (by assumption); walk_at "st"))
local macro_rules | `(tactic| walk_at "i") => `(tactic| first | assumption | exact Stm.i (by assumption))
local macro_rules | `(tactic| walk_at "fact") => `(tactic| first | rfl | exact (rfl : V.non = optV none) | exact (rfl : V.int _ = optV (some _)) | assumption)
local macro_rules | `(tactic| walk_at "g") => `(tactic| first
  | with_reducible refine x_seq ?_
  | with_reducible refine x_next ?_
  | with_reducible refine x_asg ?_
  | with_reducible refine x_ret ?_
  | with_reducible refine x_retN ?_
  | with_reducible refine x_drop ?_
  | with_reducible refine x_ifs ?_
  | ((with_reducible refine' x_var ?hv ?_); (case hv => exact rfl))
  | with_reducible refine x_c ?_
  | with_reducible refine x_op ?_
  | with_reducible refine x_un ?_
  | with_reducible refine x_test ?_
  | with_reducible refine x_B ?_
  | with_reducible refine x_bl ?_
  | with_reducible refine x_and ?_
  | with_reducible refine x_or ?_
  | with_reducible refine x_not ?_
  | with_reducible refine x_andV ?_
  | with_reducible refine x_orV ?_
  | with_reducible refine x_notV ?_
  | with_reducible refine x_ife ?_
  | with_reducible refine x_isN ?_
  | with_reducible refine x_notN ?_
  | with_reducible refine x_nil ?_
  | with_reducible refine x_cons ?_
  | with_reducible refine x_cb ?_
  | with_reducible refine x_call ?_
  | ((with_reducible refine' x_callL ?hv ?_); (case hv => exact rfl))
  | with_reducible refine x_gname ?_
  | with_reducible refine x_I0 ?_
  | ((with_reducible refine' x_eq ?hv ?_); (case hv => exact rfl))
  | ((with_reducible refine' x_ne ?hv ?_); (case hv => exact rfl))
  | with_reducible refine x_tupG ?_
  | with_reducible refine x_lstG ?_
  | with_reducible refine x_lc ?_
  | (with_reducible refine x_U ?_)
  | ((with_reducible refine' ite_T ?hv ?_); (case hv => exact rfl))
  | ((with_reducible refine' ite_F ?hv ?_); (case hv => exact rfl))
  | with_reducible refine x_for ?_
  | with_reducible refine x_iEnum ?_
  | with_reducible refine x_iList ?_
  | with_reducible refine x_iTup ?_
  | with_reducible refine x_gcons ?_
  | with_reducible refine x_gnil ?_
  | with_reducible refine x_bm ?_
  | with_reducible refine x_fldG ?_
  | with_reducible refine x_meth ?_
  | with_reducible refine x_sl ?_
  | with_reducible refine x_nopart ?_
  | with_reducible refine x_part ?_
  | with_reducible refine x_int ?_
  | with_reducible refine x_yes ?_
  | with_reducible refine x_isNG ?_
  | with_reducible refine x_notNG ?_
  | fail "no step")
local macro_rules | `(tactic| walk_at "g2") => `(tactic| first
  | with_reducible refine x_sfld ?_
  | with_reducible refine x_make ?_
  | with_reducible refine x_dnew ?_
  | with_reducible refine x_lcT ?_
  | with_reducible refine x_lcS ?_
  | with_reducible refine x_disp ?_
  | with_reducible refine x_pcons ?_
  | with_reducible refine x_pnil ?_
  | with_reducible refine x_dnewK ?_
  | with_reducible refine x_dput ?_
  | with_reducible refine x_gsub ?_
  | with_reducible refine x_dget2 ?_
  | with_reducible refine x_litems ?_
  | with_reducible refine x_bmX ?_
  | with_reducible refine x_ckw ?_
  | with_reducible refine L2Z.x_methS ?_
  | with_reducible refine L2Z.x_methN ?_
  | with_reducible refine x_callSD ?_
  | with_reducible refine x_lcZ ?_
  | walk_at "g")
local macro_rules | `(tactic| walk_at "go") => `(tactic| repeat' walk_at "g2")

section
variable {P : Program} {w : World} {K : PySem.W.Frag} {mg : Str → Option Value} {base : Heap}
def sp_columns_at (K : PySem.W.Frag) : Sp := fun vs H Q _ => ∃ G v xs row, vs = [v, .int row] ∧ Ex G H ∧ IsL (IsBlk K) G v xs ∧ xs.length ≤ 1500 ∧ ∀ G1 H1 r, St G H G1 H1 → IsL IsRn G1 r (columnsAt xs row) → Q r H1
theorem sc_columns_at : FnScope ["blocks", "row", "block"] ["blocks", "row"] (defScope s_columns_at) := ⟨rfl, rfl, rfl, by decide +kernel, rfl, by decide +kernel, by decide +kernel⟩
theorem ok_columns_at (T : TX K mg) : FnOk P w K mg base CX0 2 (f_columns_at K) (fdO K (f_columns_at K)) ["blocks", "row"] (sp_columns_at K) := by
  refine (F_columns_at T).ok sc_columns_at (fun vs H Q E h => ?_) (fun cdv A outer s H vs Q E hr h => ?_)
  · obtain ⟨_, _, _, _, rfl, _⟩ := h; rfl
  · obtain ⟨G0, v, xs, row, rfl, e, hx, hz, k⟩ := h
    have hz' : xs.length < sizeLine := Nat.lt_of_le_of_lt hz (by decide)
    refine ⟨_, PSs.nox (pss_one (ps_ret (pe_lc (own := [("block", 2)]) (g := gName 2) (by rfl) sc_columns_at.nd (pi_list (pv 0)) (blkOk_by (own := [("block", 2)]) (N := ["blocks", "row", "block"]) (sc := defScope s_columns_at) (by decide +kernel)) (fun _ _ _ _ _ => (pg_name (i := 2) sc_columns_at.nd rfl (by first | exact Or.inl rfl | exact Or.inr rfl))) (fun _ _ _ _ _ => (pts_one (pt_val (pe_call (ok_is_at T) (hr.mono (by decide)) (by rfl) (g_is_at T) (F_is_at T).kp (b_is_at T) .nil pass0 (pa_cons (fldK (K := K) (pv 2) (by rfl) (by rfl)) (pa_cons (fldK (K := K) (pv 2) (by rfl) (by rfl)) (pa_cons (pv 1) pa_nil))))))) (fun _ _ _ _ _ => (pe_tup (pa_cons (fldK (K := K) (pv 2) (by rfl) (by rfl)) (pa_cons (fldK (K := K) (pv 2) (by rfl) (by rfl)) pa_nil))))))), ?_⟩
    repeat' walk_at "g"
    refine lcG (R := IsBlk K) (S := IsRn) IsBlk.mono IsRn.mono (fun b => isAt b.t b.b row) (fun b => (b.l, b.r)) e hx hz' (fun x w' G1 H1 N0 N1 _ s1 hw n0 n1 => ?_) fun G1 H1 D s1 hD => k G1 H1 _ s1 hD
    repeat' walk_at "g"
    refine ⟨rfl, ?_⟩
    repeat' walk_at "g"
    refine fB_top T hw s1.i ?_
    walk_at "go"
    refine fB_bottom T hw s1.i ?_
    walk_at "go"
    refine ⟨x.t, x.b, row, rfl, isAt x.t x.b row, rfl, ?_⟩
    refine ite_b2 (fun h1 => ?_) (fun h1 => ?_)
    · repeat' walk_at "g"
      refine fB_left T hw s1.i ?_
      walk_at "go"
      refine fB_right T hw s1.i ?_
      walk_at "go"
      refine tupI s1.i (by show 2 ≤ 1000; decide) fun pt G3 H4 s6 ht => ?_
      exact n1 _ _ _ s6 ⟨pt, _, _, rfl, ht, rfl, rfl⟩ h1
    · exact n0 _ _ (Stm.refl s1.i) h1
def sp_with_run : Sp := fun vs H Q _ => ∃ G v xs a l, vs = [v, .int a, optV l] ∧ Ex G H ∧ IsL IsRn G v xs ∧ xs.length ≤ 4000 ∧ ∀ G1 H1 r, St G H G1 H1 → IsL IsRn G1 r (withRun xs a l) → Q r H1
theorem sc_with_run : FnScope ["runs", "first", "last"] ["runs", "first", "last"] (defScope s_with_run) := ⟨rfl, rfl, rfl, by decide +kernel, rfl, by decide +kernel, by decide +kernel⟩
theorem ok_with_run (T : TX K mg) : FnOk P w K mg base CX0 1 (f_with_run K) (fdO K (f_with_run K)) ["runs", "first", "last"] sp_with_run := by
  refine (F_with_run T).ok sc_with_run (fun vs H Q E h => ?_) (fun cdv A outer s H vs Q E hr h => ?_)
  · obtain ⟨_, _, _, _, _, rfl, _⟩ := h; rfl
  · obtain ⟨G0, v, xs, a, l, rfl, e, hx, hz, k⟩ := h
    refine ⟨_, PSs.nox (pss_cons (ps_if (PW.pt (pw_and (pt_cmpR (op_neD hr.units) (pv 0) (pe_lst pa_nil) (nomark _)) (pw_and1 (pt_cmpR op_eq (pe_ix (ixTK (K := K) (by rfl)) (pe_ix (ixLK (K := K) (by rfl)) (pv 0) (pe_un un_neg pe_int) (fun _ _ => rfl)) pe_int (fun _ _ => rfl)) (pe_op op_sub (pv 1) pe_int) (nomark _))))) (pss_one (ps_ret (pe_op op_cat (pe_slice sl_list (pv 0) po_none (po_some (pe_un un_neg pe_int))) (pe_lst (pa_cons (pe_tup (pa_cons (pe_ix (ixTK (K := K) (by rfl)) (pe_ix (ixLK (K := K) (by rfl)) (pv 0) (pe_un un_neg pe_int) (fun _ _ => rfl)) pe_int (fun _ _ => rfl)) (pa_cons (pv 2) pa_nil))) pa_nil))))) pss_nil)
      (pss_one (ps_ret (pe_op op_cat (pv 0) (pe_lst (pa_cons (pe_tup (pa_cons (pv 1) (pa_cons (pv 2) pa_nil))) pa_nil)))))), ?_⟩
    repeat' walk_at "g"
    refine lstI e (Nat.zero_le _) fun p0 G1 H1 s1 g1 => ?_
    have hx1 := IsL.mono IsRn.mono _ _ _ _ s1.g hx
    refine neNil hx1 s1.i (s1.i _ _ g1) ?_
    walk_at "go"
    have hsz : xs.length + 1 ≤ sizeLine := by
      have : 4001 ≤ sizeLine := by decide
      omega
    have tail : ∀ H, Ex G1 H → withRun xs a l = xs ++ [(a, l)] → St G1 H1 G1 H → tRet (tOp rCat (tVar 0) (tLst (tCons (tTup (tCons (tVar 1) (tCons (tVar 2) tNil))) tNil))) { nx := fun x H' => Q V.non H', rt := Q } (L2.start [Str.ofString "runs", Str.ofString "first", Str.ofString "last"] [v, V.int a, optV l]) H := by
      intro H2 e2 he st2
      walk_at "go"
      refine tupI e2 (by show 2 ≤ 1000; decide) fun pt G3 H3 s3 ht => ?_
      walk_at "go"
      refine lstI s3.i (by show 1 ≤ 1000; decide) fun pl G4 H4 s4 hl => ?_
      have ht' := s4.g _ _ ht
      refine catL IsRn.mono (IsL.mono IsRn.mono _ _ _ _ (s3.trans s4).g hx1) (ys := [(a, l)]) ⟨pl, _, rfl, hl, .cons ⟨pt, _, _, rfl, ht', rfl, rfl⟩ .nil⟩ s4.i hsz fun p G5 H5 s5 h5 => ?_
      rw [← he] at h5
      exact k _ _ _ ((((s1.trans st2).trans s3).trans s4).trans s5) h5
    cases hl : xs.getLast? with
    | none =>
      have en : xs = [] := by simpa using hl
      subst en
      exact tail _ s1.i rfl (Stm.refl s1.i)
    | some z =>
      obtain ⟨a0, b0⟩ := z
      have hne : xs ≠ [] := by intro c; subst c; cases hl
      have hb : (!xs.isEmpty) = true := by simp [hne]
      refine ite_T hb ?_
      walk_at "go"
      refine ixLast hx1 s1.i hl fun w1 hw1 => ?_
      walk_at "go"
      refine x_ixT1 hw1 s1.i fun w2 hw2 => ?_
      cases hw2
      walk_at "go"
      have no : b0 ≠ some (a - 1) → withRun xs a l = xs ++ [(a, l)] := by
        intro h0
        unfold withRun
        rw [hl]
        cases b0 with
        | none => rfl
        | some b => exact if_neg fun c => h0 (congrArg some c)
      refine ⟨by cases b0 <;> rfl, _, rfl, ?_⟩
      by_cases hc : b0 = some (a - 1)
      · subst hc
        refine ite_T (by simp) ?_
        walk_at "go"
        refine sliceInit IsRn.mono hx1 s1.i fun p2 G2 H2 s2 h2 => ?_
        walk_at "go"
        refine ixLast (IsL.mono IsRn.mono _ _ _ _ s2.g hx1) s2.i hl fun w3 hw3 => ?_
        walk_at "go"
        refine x_ixT0 hw3 s2.i fun w4 hw4 => ?_
        cases hw4
        walk_at "go"
        refine tupI s2.i (by show 2 ≤ 1000; decide) fun pt G3 H3 s3 ht => ?_
        walk_at "go"
        refine lstI s3.i (by show 1 ≤ 1000; decide) fun pl G4 H4 s4 hl4 => ?_
        have ht' := s4.g _ _ ht
        have hsz2 : xs.dropLast.length + 1 ≤ sizeLine := by rw [List.length_dropLast]; omega
        refine catL IsRn.mono (IsL.mono IsRn.mono _ _ _ _ (s3.trans s4).g h2) (ys := [(a0, l)]) ⟨pl, _, rfl, hl4, .cons ⟨pt, _, _, rfl, ht', rfl, rfl⟩ .nil⟩ s4.i hsz2 fun p G5 H5 s5 h5 => ?_
        have he : withRun xs a l = xs.dropLast ++ [(a0, l)] := by
          unfold withRun
          rw [hl]
          exact if_pos rfl
        rw [← he] at h5
        exact k _ _ _ ((((s1.trans s2).trans s3).trans s4).trans s5) h5
      · refine ite_F (decide_eq_false fun c => hc ?_) ?_
        · cases b0 with
          | none => cases c
          | some b => exact congrArg some (V.int.inj c)
        · exact tail _ s1.i (no hc) (Stm.refl s1.i)
def spB (f : Bool → Bool → Bool) : Sp := fun vs H Q _ => ∃ a b, vs = [.bl a, .bl b] ∧ Q (.bl (f a b)) H
theorem sc_either : FnScope ["one", "other"] ["one", "other"] (defScope s_either) := ⟨rfl, rfl, rfl, by decide +kernel, rfl, by decide +kernel, by decide +kernel⟩
theorem ok_either (T : TX K mg) : FnOk P w K mg base CX0 1 (f_either K) (fdO K (f_either K)) ["one", "other"] (spB fun a b => a || b) := by
  refine (F_either T).ok sc_either (fun vs H Q E h => ?_) (fun cdv A outer s H vs Q E hr h => ?_)
  · obtain ⟨_, _, rfl, _⟩ := h; rfl
  · obtain ⟨a, b, rfl, k⟩ := h
    refine ⟨_, PSs.nox (pss_one (ps_ret (pe_or (pv 0) (pe_one (pv 1))))), ?_⟩
    walk_at "go"
    cases a
    · walk_at "go"
      exact k
    · exact k
theorem sc_one_alone : FnScope ["one", "other"] ["one", "other"] (defScope s_one_alone) := ⟨rfl, rfl, rfl, by decide +kernel, rfl, by decide +kernel, by decide +kernel⟩
theorem ok_one_alone (T : TX K mg) : FnOk P w K mg base CX0 1 (f_one_alone K) (fdO K (f_one_alone K)) ["one", "other"] (spB fun a b => a && !b) := by
  refine (F_one_alone T).ok sc_one_alone (fun vs H Q E h => ?_) (fun cdv A outer s H vs Q E hr h => ?_)
  · obtain ⟨_, _, rfl, _⟩ := h; rfl
  · obtain ⟨a, b, rfl, k⟩ := h
    refine ⟨_, PSs.nox (pss_one (ps_ret (pe_and (pv 0) (pe_one (pe_not (pv 1)))))), ?_⟩
    walk_at "go"
    cases a
    · exact k
    · walk_at "go"
      exact k
/-- what a slot keeps may be -/
inductive Kp (K : PySem.W.Frag) : Addr → (Bool → Bool → Bool) → Prop
  | either : Kp K (He.ga K "either") fun a b => a || b
  | one_alone : Kp K (He.ga K "one_alone") fun a b => a && !b
def KpS (K : PySem.W.Frag) (f : Addr) (sp : Sp) : Prop := ∃ g, Kp K f g ∧ sp = spB g
theorem kp_held (T : TX K mg) (f : Addr) (sp : Sp) (h : KpS K f sp) : Held P w K mg base 1 f sp := by
  obtain ⟨g, h, rfl⟩ := h
  cases h
  · exact ⟨⟨_, _, ok_either T, (F_either T).kp, b_either T⟩⟩
  · exact ⟨⟨_, _, ok_one_alone T, (F_one_alone T).kp, b_one_alone T⟩⟩
theorem withRun_len (xs : List Rn) (a : Int) (l : Option Int) : (withRun xs a l).length ≤ xs.length + 1 := by
  unfold withRun
  split
  · split
    · simp only [List.length_append, List.length_dropLast, List.length_cons, List.length_nil]; omega
    · simp
  · simp
theorem runs_len (one other : List Rn) (k : Bool → Bool → Bool) : ∀ (ss : List Rn) (acc : List Rn), (ss.foldl (runStep one other k) acc).length ≤ acc.length + ss.length
  | [], acc => Nat.le_refl _
  | s :: ss, acc => by
    have h1 := runs_len one other k ss (runStep one other k acc s)
    have h2 : (runStep one other k acc s).length ≤ acc.length + 1 := by
      unfold runStep
      split
      · exact withRun_len ..
      · omega
    simp only [List.foldl_cons, List.length_cons]
    omega
theorem fold_more {α β : Type} {f : β → α → β} {b : β} {l : List α} {i : Nat} {x : α} (h : l[i]? = some x) : (l.take (i + 1)).foldl f b = f ((l.take i).foldl f b) x := by
  rw [take_more h, List.foldl_append]; rfl
theorem any_all {α : Type} (g : α → Bool) (xs : List α) : ((xs.filter fun _ => true).map g).any id = xs.any g := by
  simp [List.any_map]
theorem cuts_len (xs : List Rn) : (cutsOf xs).length ≤ 2 * xs.length := by
  unfold cutsOf
  have := List.length_filterMap_le (fun e : Rn => e.2.map (· + 1)) xs
  rw [List.length_append, List.length_map]; omega
theorem str_len (xs : List Int) : (stretches xs).length ≤ xs.length := by
  unfold stretches; rw [strOf_len]; exact sd_len xs
def sp_runs_by (K : PySem.W.Frag) : Sp := fun vs H Q _ => ∃ G v u f xs ys g, vs = [v, u, .ref f] ∧ Kp K f g ∧ Ex G H ∧ IsL IsRn G v xs ∧ IsL IsRn G u ys ∧ xs.length + ys.length ≤ 1500 ∧ ∀ G1 H1 r, St G H G1 H1 → IsL IsRn G1 r (runsBy xs ys g) → Q r H1
theorem sc_runs_by : FnScope ["one", "other", "keeps", "found", "first", "last", "in_one", "in_other", "run"] ["one", "other", "keeps"] (defScope s_runs_by) := ⟨rfl, rfl, rfl, by decide +kernel, rfl, by decide +kernel, by decide +kernel⟩
theorem ok_runs_by (T : TX K mg) : FnOk P w K mg base CX0 2 (f_runs_by K) (fdO K (f_runs_by K)) ["one", "other", "keeps"] (sp_runs_by K) := by
  refine (F_runs_by T).ok sc_runs_by (fun vs H Q E h => ?_) (fun cdv A outer s H vs Q E hr h => ?_)
  · obtain ⟨_, _, _, _, _, _, _, rfl, _⟩ := h; rfl
  · obtain ⟨G0, v, u, f, xs, ys, g, rfl, kp, e, hx, hy, hz, k⟩ := h
    have hsz : xs.length + ys.length ≤ sizeLine := Nat.le_trans hz (by decide)
    refine ⟨_, PSs.nox (pss_cons (ps_set (i := 3) sc_runs_by.nd rfl (by first | exact Or.inl rfl | exact Or.inr rfl) (pe_lst pa_nil))
      (pss_cons (ps_for PassesOwn.never rfl (pi_list (pe_call (ok_stretches T) (hr.mono (by decide)) (by rfl) (g_stretches T) (F_stretches T).kp (b_stretches T) .nil pass0 (pa_cons (pe_call (ok_cuts_of T) (hr.mono (by decide)) (by rfl) (g_cuts_of T) (F_cuts_of T).kp (b_cuts_of T) .nil pass0 (pa_cons (pe_op op_cat (pv 0) (pv 1)) pa_nil)) pa_nil))) (pg_tup (by rfl) (pgs_cons (pg_name (i := 4) sc_runs_by.nd rfl (by first | exact Or.inl rfl | exact Or.inr rfl)) (pgs_cons (pg_name (i := 5) sc_runs_by.nd rfl (by first | exact Or.inl rfl | exact Or.inr rfl)) pgs_nil))) (pss_cons (ps_set (i := 6) sc_runs_by.nd rfl (by first | exact Or.inl rfl | exact Or.inr rfl) (pe_callB (cr_any rfl) (by rfl) (z_any T) PyProof.Rows.boot_any (pa_cons (pe_lc (own := [("run", 8)]) (g := gName 8) (by rfl) sc_runs_by.nd (pi_list (pv 0)) (blkOk_by (own := [("run", 8)]) (N := ["one", "other", "keeps", "found", "first", "last", "in_one", "in_other", "run"]) (sc := defScope s_runs_by) (by decide +kernel)) (fun _ _ _ _ _ => (pg_name (i := 8) sc_runs_by.nd rfl (by first | exact Or.inl rfl | exact Or.inr rfl))) (fun _ _ _ _ _ => pts_nil) (fun _ _ _ _ _ => (pe_call (ok_is_at T) (hr.mono (by decide)) (by rfl) (g_is_at T) (F_is_at T).kp (b_is_at T) .nil pass0 (pa_cons (pe_ix (ixTK (K := K) (by rfl)) (pv 8) pe_int (fun _ _ => rfl)) (pa_cons (pe_ix (ixTK (K := K) (by rfl)) (pv 8) pe_int (fun _ _ => rfl)) (pa_cons (pv 4) pa_nil)))))) pa_nil)))
      (pss_cons (ps_set (i := 7) sc_runs_by.nd rfl (by first | exact Or.inl rfl | exact Or.inr rfl) (pe_callB (cr_any rfl) (by rfl) (z_any T) PyProof.Rows.boot_any (pa_cons (pe_lc (own := [("run", 8)]) (g := gName 8) (by rfl) sc_runs_by.nd (pi_list (pv 1)) (blkOk_by (own := [("run", 8)]) (N := ["one", "other", "keeps", "found", "first", "last", "in_one", "in_other", "run"]) (sc := defScope s_runs_by) (by decide +kernel)) (fun _ _ _ _ _ => (pg_name (i := 8) sc_runs_by.nd rfl (by first | exact Or.inl rfl | exact Or.inr rfl))) (fun _ _ _ _ _ => pts_nil) (fun _ _ _ _ _ => (pe_call (ok_is_at T) (hr.mono (by decide)) (by rfl) (g_is_at T) (F_is_at T).kp (b_is_at T) .nil pass0 (pa_cons (pe_ix (ixTK (K := K) (by rfl)) (pv 8) pe_int (fun _ _ => rfl)) (pa_cons (pe_ix (ixTK (K := K) (by rfl)) (pv 8) pe_int (fun _ _ => rfl)) (pa_cons (pv 4) pa_nil)))))) pa_nil)))
      (pss_one (ps_if (pt_val (pe_callO (i := 2) (S := KpS K) (kp_held T) (hr.mono (by decide)) (by rfl) (by first | exact Or.inl rfl | exact Or.inr (Or.inl rfl) | exact Or.inr (Or.inr rfl)) (pa_cons (pv 6) (pa_cons (pv 7) pa_nil)))) (pss_one (ps_set (i := 3) sc_runs_by.nd rfl (by first | exact Or.inl rfl | exact Or.inr rfl) (pe_call (ok_with_run T) (hr.mono (by decide)) (by rfl) (g_with_run T) (F_with_run T).kp (b_with_run T) .nil pass0 (pa_cons (pv 3) (pa_cons (pv 4) (pa_cons (pv 5) pa_nil)))))) pss_nil)))))
      (pss_one (ps_ret (pv 3))))), ?_⟩
    walk_at "go"
    refine lstI e (Nat.zero_le _) fun p0 G1 H1 s1 g1 => ?_
    walk_at "go"
    have hx1 := IsL.mono IsRn.mono _ _ _ _ s1.g hx
    have hy1 := IsL.mono IsRn.mono _ _ _ _ s1.g hy
    refine catL IsRn.mono hx1 hy1 s1.i hsz fun p1 G2 H2 s2 h2 => ?_
    walk_at "go"
    have hl2 : (xs ++ ys).length ≤ 1500 := by rw [List.length_append]; exact hz
    refine ⟨G2, _, _, rfl, s2.i, h2, hl2, fun G3 H3 r3 s3 h3 => ?_⟩
    walk_at "go"
    have hc3 := cuts_len (xs ++ ys)
    have hb : (cutsOf (xs ++ ys)).length + 1 < scanBound := by
      have : 3001 < scanBound := by decide
      omega
    refine ⟨G3, _, _, rfl, s3.i, h3, hb, fun G4 H4 r4 s4 h4 => ?_⟩
    have hx4 := IsL.mono IsRn.mono _ _ _ _ (s2.trans (s3.trans s4)).g hx1
    have hy4 := IsL.mono IsRn.mono _ _ _ _ (s2.trans (s3.trans s4)).g hy1
    have hxl : xs.length < sizeLine := Nat.lt_of_le_of_lt (Nat.le_trans (Nat.le_add_right _ _) hz) (by decide)
    have hyl : ys.length < sizeLine := Nat.lt_of_le_of_lt (Nat.le_trans (Nat.le_add_left _ _) hz) (by decide)
    refine forG IsRn.mono h4 s4.i (fun i σ' G' H' => ∃ vf o1 o2 o3 o4 o5, σ' = [some v, some u, some (.ref f), some vf, o1, o2, o3, o4, o5] ∧ St G4 H4 G' H' ∧ IsL IsRn G' vf (((stretches (cutsOf (xs ++ ys))).take i).foldl (runStep xs ys g) []))
      ⟨.ref p0, none, none, none, none, none, rfl, Stm.refl s4.i, p0, [], rfl, (s2.trans (s3.trans s4)).g _ _ g1, .nil⟩ (fun i σ' G' H' _ ⟨_, _, _, _, _, _, _, s, _⟩ => ⟨s.g, s.i⟩) ?_ ?_
    · rintro i x w' σ1 G5 H5 hi ⟨vf, o1, o2, o3, o4, o5, rfl, sA, hf⟩ hw
      refine x_gtup2 hw sA.i fun w1 w2 hw1 hw2 => ?_
      cases hw1
      cases hw2
      walk_at "go"
      refine lcG (R := IsRn) (S := IsB) IsRn.mono IsB.mono (fun _ => true) (fun r => isAt r.1 r.2 x.1) sA.i (IsL.mono IsRn.mono _ _ _ _ sA.g hx4) hxl (fun r w' G6 H6 N0 N1 _ s6 hr n0 n1 => ?_) fun G6 H6 D6 s6 h6 => ?_
      · refine ⟨rfl, ?_⟩
        walk_at "go"
        refine x_ixT0 hr s6.i fun w3 hw3 => ?_
        cases hw3
        walk_at "go"
        refine x_ixT1 hr s6.i fun w4 hw4 => ?_
        cases hw4
        walk_at "go"
        exact ⟨r.1, r.2, x.1, rfl, n1 _ _ _ (Stm.refl s6.i) rfl rfl⟩
      · walk_at "go"
        refine anyL h6 s6.i ?_
        rw [any_all]
        walk_at "go"
        refine lcG (R := IsRn) (S := IsB) IsRn.mono IsB.mono (fun _ => true) (fun r => isAt r.1 r.2 x.1) s6.i (IsL.mono IsRn.mono _ _ _ _ (sA.trans s6).g hy4) hyl (fun r w' G7 H7 N0 N1 _ s7 hr n0 n1 => ?_) fun G7 H7 D7 s7 h7 => ?_
        · refine ⟨rfl, ?_⟩
          walk_at "go"
          refine x_ixT0 hr s7.i fun w3 hw3 => ?_
          cases hw3
          walk_at "go"
          refine x_ixT1 hr s7.i fun w4 hw4 => ?_
          cases hw4
          walk_at "go"
          exact ⟨r.1, r.2, x.1, rfl, n1 _ _ _ (Stm.refl s7.i) rfl rfl⟩
        · walk_at "go"
          refine anyL h7 s7.i ?_
          rw [any_all]
          walk_at "go"
          refine x_callO rfl ⟨g, kp, rfl⟩ ?_
          walk_at "go"
          refine ⟨_, _, rfl, ?_⟩
          have sB := (sA.trans s6).trans s7
          have hfB := IsL.mono IsRn.mono _ _ _ _ (s6.trans s7).g hf
          have hm := fold_more (f := runStep xs ys g) (b := []) hi
          refine ⟨_, rfl, ite_b2 (fun h1 => ?_) (fun h1 => ?_)⟩
          · walk_at "go"
            have hln : (((stretches (cutsOf (xs ++ ys))).take i).foldl (runStep xs ys g) []).length ≤ 4000 := by
              have q1 := runs_len xs ys g ((stretches (cutsOf (xs ++ ys))).take i) []
              have q2 := str_len (cutsOf (xs ++ ys))
              have q3 : ((stretches (cutsOf (xs ++ ys))).take i).length ≤ (stretches (cutsOf (xs ++ ys))).length := by rw [List.length_take]; exact Nat.min_le_right _ _
              simp only [List.length_nil] at q1
              omega
            refine ⟨G7, _, _, _, _, rfl, s7.i, hfB, hln, fun G8 H8 r8 s8 h8 => ?_⟩
            walk_at "go"
            refine ⟨G8, _, _, _, _, _, _, rfl, sB.trans s8, ?_⟩
            rw [hm]
            unfold runStep
            rw [if_pos h1]
            exact h8
          · walk_at "go"
            refine ⟨G7, _, _, _, _, _, _, rfl, sB, ?_⟩
            rw [hm]
            unfold runStep
            rw [if_neg (by rw [h1]; exact Bool.false_ne_true)]
            exact hfB
    · rintro σ' G' H' ⟨vf, o1, o2, o3, o4, o5, rfl, sA, hf⟩
      rw [List.take_length] at hf
      walk_at "go"
      exact k _ _ _ ((((s1.trans s2).trans s3).trans s4).trans sA) hf
end
end GT

/-! ## PE -/
set_option Elab.async false
set_option linter.all false
set_option maxRecDepth 100000
namespace GT
open PySem PySem.Spec PyProof.Rows L2 G
local macro_rules | `(tactic| walk_at "ex") => `(tactic| first | exact Ex.refl _ | assumption | exact Stm.g (by assumption) | (refine Ex.trans ?_ (Stm.g (by assumption)); walk_at "ex"))
local macro_rules | `(tactic| walk_at "st") => `(tactic| first | exact Stm.refl (by assumption) | assumption | (refine Stm.trans ?_ (by assumption); walk_at "st"))
local macro_rules | `(tactic| walk_at "i") => `(tactic| first | assumption | exact Stm.i (by assumption))
local macro_rules | `(tactic| walk_at "fact") => `(tactic| first | rfl | exact (rfl : V.non = optV none) | exact (rfl : V.int _ = optV (some _)) | assumption)
local macro_rules | `(tactic| walk_at "g") => `(tactic| first
  | with_reducible refine x_seq ?_
  | with_reducible refine x_next ?_
  | with_reducible refine x_asg ?_
  | with_reducible refine x_ret ?_
  | with_reducible refine x_retN ?_
  | with_reducible refine x_drop ?_
  | with_reducible refine x_ifs ?_
  | ((with_reducible refine' x_var ?hv ?_); (case hv => exact rfl))
  | with_reducible refine x_c ?_
  | with_reducible refine x_op ?_
  | with_reducible refine x_un ?_
  | with_reducible refine x_test ?_
  | with_reducible refine x_B ?_
  | with_reducible refine x_bl ?_
  | with_reducible refine x_and ?_
  | with_reducible refine x_or ?_
  | with_reducible refine x_not ?_
  | with_reducible refine x_andV ?_
  | with_reducible refine x_orV ?_
  | with_reducible refine x_notV ?_
  | with_reducible refine x_ife ?_
  | with_reducible refine x_isN ?_
  | with_reducible refine x_notN ?_
  | with_reducible refine x_nil ?_
  | with_reducible refine x_cons ?_
  | with_reducible refine x_cb ?_
  | with_reducible refine x_call ?_
  | ((with_reducible refine' x_callL ?hv ?_); (case hv => exact rfl))
  | with_reducible refine x_gname ?_
  | with_reducible refine x_I0 ?_
  | ((with_reducible refine' x_eq ?hv ?_); (case hv => exact rfl))
  | ((with_reducible refine' x_ne ?hv ?_); (case hv => exact rfl))
  | with_reducible refine x_tupG ?_
  | with_reducible refine x_lstG ?_
  | with_reducible refine x_lc ?_
  | (with_reducible refine x_U ?_)
  | ((with_reducible refine' ite_T ?hv ?_); (case hv => exact rfl))
  | ((with_reducible refine' ite_F ?hv ?_); (case hv => exact rfl))
  | with_reducible refine x_for ?_
  | with_reducible refine x_iEnum ?_
  | with_reducible refine x_iList ?_
  | with_reducible refine x_iTup ?_
  | with_reducible refine x_gcons ?_
  | with_reducible refine x_gnil ?_
  | with_reducible refine x_bm ?_
  | with_reducible refine x_fldG ?_
  | with_reducible refine x_meth ?_
  | with_reducible refine x_sl ?_
  | with_reducible refine x_nopart ?_
  | with_reducible refine x_part ?_
  | with_reducible refine x_int ?_
  | with_reducible refine x_yes ?_
  | with_reducible refine x_isNG ?_
  | with_reducible refine x_notNG ?_
  | fail "no step")
local macro_rules | `(tactic| walk_at "g2") => `(tactic| first
  | with_reducible refine x_sfld ?_
  | with_reducible refine x_make ?_
  | with_reducible refine x_dnew ?_
  | with_reducible refine x_lcT ?_
  | with_reducible refine x_lcS ?_
  | with_reducible refine x_disp ?_
  | with_reducible refine x_pcons ?_
  | with_reducible refine x_pnil ?_
  | with_reducible refine x_dnewK ?_
  | with_reducible refine x_dput ?_
  | with_reducible refine x_gsub ?_
  | with_reducible refine x_dget2 ?_
  | with_reducible refine x_litems ?_
  | with_reducible refine x_bmX ?_
  | with_reducible refine x_ckw ?_
  | with_reducible refine L2Z.x_methS ?_
  | with_reducible refine L2Z.x_methN ?_
  | with_reducible refine x_callSD ?_
  | with_reducible refine x_lcZ ?_
  | walk_at "g")
local macro_rules | `(tactic| walk_at "go") => `(tactic| repeat' walk_at "g2")

section
variable {P : Program} {w : World} {K : PySem.W.Frag} {mg : Str → Option Value} {base : Heap}
abbrev IsBand : Rp Band := IsT3 IsI IsO (IsL IsRn)
theorem IsBand.mono : Mono IsBand := IsT3.mono IsI.mono IsO.mono (IsL.mono IsRn.mono)
theorem bands_len (one other : List Blk) (k : Bool → Bool → Bool) : ∀ (ss : List Rn) (acc : List Band), (ss.foldl (bandStep one other k) acc).length ≤ acc.length + ss.length
  | [], acc => Nat.le_refl _
  | s :: ss, acc => by
    have h1 := bands_len one other k ss (bandStep one other k acc s)
    have h2 : (bandStep one other k acc s).length ≤ acc.length + 1 := by
      unfold bandStep
      split
      · omega
      · simp
    simp only [List.foldl_cons, List.length_cons]
    omega
theorem cols_len (bs : List Blk) (r : Int) : (columnsAt bs r).length ≤ bs.length := by
  unfold columnsAt
  rw [List.length_map]
  exact List.length_filter_le _ _
def sp_bands_by (K : PySem.W.Frag) : Sp := fun vs H Q _ => ∃ G v u f xs ys g, vs = [v, u, .ref f] ∧ Kp K f g ∧ Ex G H ∧ IsL (IsBlk K) G v xs ∧ IsL (IsBlk K) G u ys ∧ xs.length + ys.length ≤ 1500 ∧ ∀ G1 H1 r, St G H G1 H1 → IsL IsBand G1 r (bandsBy xs ys g) → Q r H1
theorem sc_bands_by : FnScope ["one", "other", "keeps", "found", "first", "last", "runs", "block"] ["one", "other", "keeps"] (defScope s_bands_by) := ⟨rfl, rfl, rfl, by decide +kernel, rfl, by decide +kernel, by decide +kernel⟩
theorem ok_bands_by (T : TX K mg) : FnOk P w K mg base CX0 3 (f_bands_by K) (fdO K (f_bands_by K)) ["one", "other", "keeps"] (sp_bands_by K) := by
  refine (F_bands_by T).ok sc_bands_by (fun vs H Q E h => ?_) (fun cdv A outer s H vs Q E hr h => ?_)
  · obtain ⟨_, _, _, _, _, _, _, rfl, _⟩ := h; rfl
  · obtain ⟨G0, v, u, f, xs, ys, g, rfl, kp, e, hx, hy, hz, k⟩ := h
    have hsz : xs.length + ys.length ≤ sizeLine := Nat.le_trans hz (by decide)
    refine ⟨_, PSs.nox (pss_cons (ps_set (i := 3) sc_bands_by.nd rfl (by first | exact Or.inl rfl | exact Or.inr rfl) (pe_lst pa_nil))
      (pss_cons (ps_for PassesOwn.never rfl (pi_list (pe_call (ok_stretches T) (hr.mono (by decide)) (by rfl) (g_stretches T) (F_stretches T).kp (b_stretches T) .nil pass0 (pa_cons (pe_call (ok_cuts_of T) (hr.mono (by decide)) (by rfl) (g_cuts_of T) (F_cuts_of T).kp (b_cuts_of T) .nil pass0 (pa_cons (pe_lc (own := [("block", 7)]) (g := gName 7) (by rfl) sc_bands_by.nd (pi_list (pe_op op_cat (pv 0) (pv 1))) (blkOk_by (own := [("block", 7)]) (N := ["one", "other", "keeps", "found", "first", "last", "runs", "block"]) (sc := defScope s_bands_by) (by decide +kernel)) (fun _ _ _ _ _ => (pg_name (i := 7) sc_bands_by.nd rfl (by first | exact Or.inl rfl | exact Or.inr rfl))) (fun _ _ _ _ _ => pts_nil) (fun _ _ _ _ _ => (pe_tup (pa_cons (fldK (K := K) (pv 7) (by rfl) (by rfl)) (pa_cons (fldK (K := K) (pv 7) (by rfl) (by rfl)) pa_nil))))) pa_nil)) pa_nil))) (pg_tup (by rfl) (pgs_cons (pg_name (i := 4) sc_bands_by.nd rfl (by first | exact Or.inl rfl | exact Or.inr rfl)) (pgs_cons (pg_name (i := 5) sc_bands_by.nd rfl (by first | exact Or.inl rfl | exact Or.inr rfl)) pgs_nil))) (pss_cons (ps_set (i := 6) sc_bands_by.nd rfl (by first | exact Or.inl rfl | exact Or.inr rfl) (pe_call (ok_runs_by T) (hr.mono (by decide)) (by rfl) (g_runs_by T) (F_runs_by T).kp (b_runs_by T) .nil pass0 (pa_cons (pe_call (ok_columns_at T) (hr.mono (by decide)) (by rfl) (g_columns_at T) (F_columns_at T).kp (b_columns_at T) .nil pass0 (pa_cons (pv 0) (pa_cons (pv 4) pa_nil))) (pa_cons (pe_call (ok_columns_at T) (hr.mono (by decide)) (by rfl) (g_columns_at T) (F_columns_at T).kp (b_columns_at T) .nil pass0 (pa_cons (pv 1) (pa_cons (pv 4) pa_nil))) (pa_cons (pv 2) pa_nil)))))
      (pss_one (ps_if (pt_cmpR (op_neD hr.units) (pv 6) (pe_lst pa_nil) (nomark _)) (pss_one (ps_expr (pe_bm PySem.F.plainAttrs_list PySem.F.slot_list_append PySem.F.type_list_append mt_append (pv 3) (pa_cons (pe_tup (pa_cons (pv 4) (pa_cons (pv 5) (pa_cons (pv 6) pa_nil)))) pa_nil)))) pss_nil))))
      (pss_one (ps_ret (pv 3))))), ?_⟩
    walk_at "go"
    refine lstM e (Nat.zero_le _) fun p0 H1 hp0 s1 m1 => ?_
    walk_at "go"
    refine catL IsBlk.mono hx hy s1.i hsz fun p1 G2 H2 s2 h2 => ?_
    walk_at "go"
    have hl2 : (xs ++ ys).length ≤ 1500 := by rw [List.length_append]; exact hz
    have hl2' : (xs ++ ys).length < sizeLine := Nat.lt_of_le_of_lt hl2 (by decide)
    refine lcG (R := IsBlk K) (S := IsRn) IsBlk.mono IsRn.mono (fun _ => true) (fun b => (b.t, b.b)) s2.i h2 hl2' (fun x w' G3 H3 N0 N1 _ s3 hw n0 n1 => ?_) fun G3 H3 D s3 hD => ?_
    · refine ⟨rfl, ?_⟩
      walk_at "go"
      refine fB_top T hw s3.i ?_
      walk_at "go"
      refine fB_bottom T hw s3.i ?_
      walk_at "go"
      refine tupI s3.i (by show 2 ≤ 1000; decide) fun pt G4 H4 s4 ht => ?_
      exact n1 _ _ _ s4 ⟨pt, _, _, rfl, ht, rfl, rfl⟩ rfl
    · have ef : ((xs ++ ys).filter fun _ => true) = xs ++ ys := List.filter_eq_self.mpr fun _ _ => rfl
      rw [ef] at hD
      walk_at "go"
      have hl3 : ((xs ++ ys).map fun b => (b.t, b.b)).length ≤ 1500 := by rw [List.length_map]; exact hl2
      refine ⟨G3, _, _, rfl, s3.i, hD, hl3, fun G4 H4 r4 s4 h4 => ?_⟩
      walk_at "go"
      have hc3 := cuts_len ((xs ++ ys).map fun b => (b.t, b.b))
      have hb : (cutsOf ((xs ++ ys).map fun b => (b.t, b.b))).length + 1 < scanBound := by
        have : 3001 < scanBound := by decide
        omega
      refine ⟨G4, _, _, rfl, s4.i, h4, hb, fun G5 H5 r5 s5 h5 => ?_⟩
      have st := s2.trans (s3.trans (s4.trans s5))
      have hx5 := IsL.mono IsBlk.mono _ _ _ _ st.g hx
      have hy5 := IsL.mono IsBlk.mono _ _ _ _ st.g hy
      have hqs := str_len (cutsOf ((xs ++ ys).map fun b => (b.t, b.b)))
      refine forG IsRn.mono h5 s5.i (fun i σ' G' H' => ∃ o1 o2 o3 o4 acc, σ' = [some v, some u, some (.ref f), some (.ref p0), o1, o2, o3, o4] ∧ Stm [p0] G5 H5 G' H' ∧ Mu G' H' p0 (.lst acc) ∧ Paired (IsBand G') acc (((stretches (cutsOf ((xs ++ ys).map fun b => (b.t, b.b)))).take i).foldl (bandStep xs ys g) []))
        ⟨none, none, none, none, [], rfl, Stm.refl s5.i, St.mu st m1, .nil⟩ (fun i σ' G' H' _ ⟨_, _, _, _, _, _, s, _⟩ => ⟨s.g, s.i⟩) ?_ ?_
      · rintro i x w' σ1 G6 H6 hi ⟨o1, o2, o3, o4, acc, rfl, sA, mA, pA⟩ hw
        refine x_gtup2 hw sA.i fun w1 w2 hw1 hw2 => ?_
        cases hw1
        cases hw2
        walk_at "go"
        refine ⟨G6, _, xs, x.1, rfl, sA.i, IsL.mono IsBlk.mono _ _ _ _ sA.g hx5, by omega, fun G7 H7 r7 s7 h7 => ?_⟩
        walk_at "go"
        refine ⟨G7, _, ys, x.1, rfl, s7.i, IsL.mono IsBlk.mono _ _ _ _ (sA.trans (St.up s7)).g hy5, by omega, fun G8 H8 r8 s8 h8 => ?_⟩
        walk_at "go"
        have q1 := cols_len xs x.1
        have q2 := cols_len ys x.1
        refine ⟨G8, _, _, f, _, _, g, rfl, kp, s8.i, IsL.mono IsRn.mono _ _ _ _ s8.g h7, h8, by omega, fun G9 H9 r9 s9 h9 => ?_⟩
        walk_at "go"
        refine lstI s9.i (Nat.zero_le _) fun pe G10 H10 s10 g10 => ?_
        have h10 := IsL.mono IsRn.mono _ _ _ _ s10.g h9
        refine neNil h10 s10.i (s10.i _ _ g10) ?_
        have sB := s7.trans (s8.trans (s9.trans s10))
        have mB := St.mu sB mA
        have pB := paired_imp (fun a b q => IsBand.mono _ _ a b sB.g q) pA
        have hm := fold_more (f := bandStep xs ys g) (b := []) hi
        refine ⟨_, rfl, ite_b2 (fun h1 => ?_) (fun h1 => ?_)⟩
        · have h1' : runsBy (columnsAt xs x.1) (columnsAt ys x.1) g ≠ [] := by
            intro c; rw [c] at h1; cases h1
          walk_at "go"
          refine ⟨x_tyL mB, ?_⟩
          walk_at "go"
          refine tupI s10.i (by show 3 ≤ 1000; decide) fun pt G11 H11 s11 ht => ?_
          walk_at "go"
          have hacc : acc.length < sizeLine := by
            have b1 := bands_len xs ys g ((stretches (cutsOf ((xs ++ ys).map fun b => (b.t, b.b)))).take i) []
            have b2 : ((stretches (cutsOf ((xs ++ ys).map fun b => (b.t, b.b)))).take i).length ≤ (stretches (cutsOf ((xs ++ ys).map fun b => (b.t, b.b)))).length := by rw [List.length_take]; exact Nat.min_le_right _ _
            have b3 : 3001 < sizeLine := by decide
            rw [paired_len pA]
            simp only [List.length_nil] at b1
            omega
          refine x_app (s11.mu mB) s11.i hacc fun H12 s12 m12 => ?_
          walk_at "go"
          refine ⟨G11, _, _, _, _, _, rfl, sA.trans ((St.up (sB.trans s11)).trans s12), m12, ?_⟩
          rw [hm]
          unfold bandStep
          rw [if_neg h1']
          exact paired_snoc ⟨pt, _, _, _, rfl, ht, rfl, rfl, IsL.mono IsRn.mono _ _ _ _ s11.g h10⟩ (paired_imp (fun a b q => IsBand.mono _ _ a b s11.g q) pB)
        · have h1' : runsBy (columnsAt xs x.1) (columnsAt ys x.1) g = [] := by
            cases hc : runsBy (columnsAt xs x.1) (columnsAt ys x.1) g with
            | nil => rfl
            | cons a l => rw [hc] at h1; cases h1
          walk_at "go"
          refine ⟨G10, _, _, _, _, _, rfl, sA.trans (St.up sB), mB, ?_⟩
          rw [hm]
          unfold bandStep
          rw [if_pos h1']
          exact pB
      · rintro σ' G' H' ⟨o1, o2, o3, o4, acc, rfl, sA, mA, pA⟩
        rw [List.take_length] at pA
        obtain ⟨s8, g8⟩ := freeze mA sA.i
        walk_at "go"
        refine k _ H' (.ref p0) ?_ ⟨p0, acc, rfl, g8, paired_imp (fun a b q => IsBand.mono _ _ a b s8.g q) pA⟩
        exact Stm.fresh (Stm.refl e) ((St.up (s1.trans st)).trans (sA.trans s8)) fun a ha => by rw [List.mem_singleton.mp ha]; exact hp0
end
end GT

/-! ## GDisp -/
set_option Elab.async false
set_option linter.all false
set_option maxRecDepth 100000
namespace G
open PySem PySem.Spec PyProof.Rows L2
/-- a dict's display: the empty dict, the pairs, the dict -/
def DispGo (trs : List (TE × TE)) (σ : L2.St) (H : Hp) (Q : VK) : Prop := ∀ p, H p = none → tPairs trs σ (upd H p (.dK [])) fun ps H2 => H2 p = some (.dK []) ∧ ∃ kvs : List (Key × V), ps = kvs.map (fun kv => (kV kv.1, kv.2)) ∧ kvs.length ≤ 15 ∧ Q (.ref p) (upd H2 p (.dK (mergeK [] kvs)))
section
variable {σ : L2.St} {G H : Hp} {Q : VK}
theorem x_disp {trs : List (TE × TE)} (h : DispGo trs σ H Q) : tDisp trs σ H Q := h
theorem x_pnil {R : List (V × V) → Hp → Prop} (h : R [] H) : tPairs [] σ H R := h
theorem x_pcons {tk tv : TE} {trs : List (TE × TE)} {R : List (V × V) → Hp → Prop} (h : tk σ H fun k H1 => tv σ H1 fun v H2 => tPairs trs σ H2 fun ps H3 => R ((k, v) :: ps) H3) : tPairs ((tk, tv) :: trs) σ H R := h
theorem dispM {trs : List (TE × TE)} (e : Ex G H) (h : ∀ p H1, H p = none → St G H G H1 → Mu G H1 p (.dK []) → tPairs trs σ H1 fun ps H2 => H2 p = some (.dK []) ∧ ∃ kvs : List (Key × V), ps = kvs.map (fun kv => (kV kv.1, kv.2)) ∧ kvs.length ≤ 15 ∧ Q (.ref p) (upd H2 p (.dK (mergeK [] kvs)))) : DispGo trs σ H Q := by
  intro p hp
  obtain ⟨s, m⟩ := almF (o := .dK []) hp e
  exact h p _ hp s m
def DNewKGo (H : Hp) (Q : VK) : Prop := ∀ p, H p = none → Q (.ref p) (upd H p (.dK []))
theorem x_dnewK (h : DNewKGo H Q) : tDNewK σ H Q := h
theorem dnewK (e : Ex G H) (h : ∀ p H1, H p = none → St G H G H1 → Mu G H1 p (.dK []) → Q (.ref p) H1) : DNewKGo H Q := by
  intro p hp
  obtain ⟨s, m⟩ := almF (o := .dK []) hp e
  exact h p _ hp s m
end
/-- d[k] = v -/
def PutGo (x y v : V) (D : Ends) (σ : L2.St) (H : Hp) : Prop := ∃ a H4, x = .ref a ∧ DPut H a y v H4 ∧ D.nx σ H4
section
variable {K : PySem.W.Frag} {σ : L2.St} {G H : Hp} {Q : VK} {D : Ends} {d : Addr} {kvs : List (Key × V)} {hs : Hs}
theorem x_dput {td ty tv : TE} (h : tv σ H fun v H1 => td σ H1 fun x H2 => ty σ H2 fun y H3 => PutGo x y v D σ H3) : sDPut td ty tv D σ H := h
theorem putG {s : Str} {v : V} (m : Mu G H d (.dK kvs)) (e : Ex G H) (hz : kvs.length < sizeLine) (h : ∀ H1, Stm [d] G H G H1 → Mu G H1 d (.dK (putK kvs (Sum.inr s) v)) → D.nx σ H1) : PutGo (.ref d) (.str s) v D σ H := by
  obtain ⟨s1, m1⟩ := chgF (o' := .dK (putK kvs (Sum.inr s) v)) m e
  exact ⟨d, _, rfl, DPut.k (k := Sum.inr s) m.1 hz, h _ s1 m1⟩
/-- d.get(k, z) -/
def GetGo (x : V) (ty tx : TE) (σ : L2.St) (H : Hp) (Q : VK) : Prop := ∃ a, x = .ref a ∧ IsD H a ∧ ty σ H fun y H2 => tx σ H2 fun z H3 => ∃ o, DGet H3 a y o ∧ Q (o.getD z) H3
theorem x_dget2 {td ty tx : TE} (h : td σ H fun x H1 => GetGo x ty tx σ H1 Q) : tDGet2 td ty tx σ H Q := h
end
end G
namespace G
open PySem PySem.Spec PyProof.Rows L2
theorem Stm.closeA {A : List Addr} {G H G' H' : Hp} {d : Addr} {u : HO} (s : Stm (d :: A) G H G' H') (m : Mu G H d u) (m' : Mu G' H' d u) : Stm A G H G' H' :=
  ⟨s.g, s.i, fun q o n h => by
    by_cases c : q = d
    · subst c
      have : o = u := Option.some.inj (h.1.symm.trans m.1)
      rw [this]; exact m'
    · exact s.m q o (fun z => by rcases List.mem_cons.mp z with e | e; exact c e; exact n e) h⟩
theorem Stm.none {A : List Addr} {G H G' H' : Hp} {a : Addr} (s : Stm A G H G' H') (h : H' a = none) (n : a ∉ A) : H a = none := by
  cases q : H a with
  | none => rfl
  | some o =>
    cases g : G a with
    | none => rw [(s.m a o n ⟨q, g⟩).1] at h; cases h
    | some u => rw [s.i a u (s.g a u g)] at h; cases h
theorem HD.snoc {K : PySem.W.Frag} {G : Hp} {kvs : List (Key × V)} {hs : Hs} {s : Str} {v : V} {c : List Blk} (h : HD K G kvs hs) (hc : IsAr K G v c) : HD K G (kvs ++ [(Sum.inr s, v)]) (hs ++ [(s, c)]) := paired_snoc ⟨rfl, hc⟩ h
def nonE (h : Str × List Blk) : Bool := !h.2.isEmpty
def kn (hs : Hs) : Prop := (hs.map (·.1)).Nodup
theorem take_all {α : Type} {p : α → Bool} {l : List α} {i : Nat} (h : l.all p = true) : (l.take i).filter p = l.take i :=
  List.filter_eq_self.mpr fun x hx => List.all_eq_true.mp h x (List.mem_of_mem_take hx)
/-- a key that isn't there yet -/
theorem HD.fresh {K : PySem.W.Frag} {G : Hp} {kvs : List (Key × V)} {hs : Hs} {s : Str} (h : HD K G kvs hs) (n : ∀ x ∈ hs, x.1 ≠ s) (v : V) : putK kvs (Sum.inr s) v = kvs ++ [(Sum.inr s, v)] := by
  refine putK_new ?_
  rw [h.any s]
  refine Bool.eq_false_iff.mpr fun c => ?_
  obtain ⟨x, hx, e⟩ := List.any_eq_true.mp c
  exact n x hx (of_decide_eq_true e)
theorem kn_take {hs : Hs} {i : Nat} {x : Str × List Blk} (h : kn hs) (hi : hs[i]? = some x) : ∀ y ∈ hs.take i, y.1 ≠ x.1 := by
  intro y hy e
  have hil : i < hs.length := (List.getElem?_eq_some_iff.mp hi).1
  have hx : hs[i] = x := (List.getElem?_eq_some_iff.mp hi).2
  have hd : hs.drop i = x :: hs.drop (i + 1) := by rw [List.drop_eq_getElem_cons hil, hx]
  unfold kn at h
  rw [← List.take_append_drop i hs, hd, List.map_append, List.map_cons] at h
  exact (List.nodup_append.mp h).2.2 y.1 (List.mem_map_of_mem hy) x.1 (List.mem_cons_self ..) e
theorem putH_kn {hs : Hs} {s : Str} {a : List Blk} (h : kn hs) : kn (putH hs s a) := by
  unfold putH kn
  split
  · rw [List.map_map]
    have e : ((fun h : Str × List Blk => h.1) ∘ fun h => if h.1 = s then (h.1, a) else h) = fun h => h.1 := by
      funext x
      show (if x.1 = s then (x.1, a) else x).1 = x.1
      split <;> rfl
    rw [e]; exact h
  · rename_i c
    rw [List.map_append]
    refine List.nodup_append.mpr ⟨h, by simp, fun x hx y hy => ?_⟩
    simp only [List.map_cons, List.map_nil, List.mem_singleton] at hy
    subst hy
    rintro rfl
    obtain ⟨z, hz, e⟩ := List.mem_map.mp hx
    exact c (List.any_eq_true.mpr ⟨z, hz, decide_eq_true e⟩)
theorem mapH_kn {hs : Hs} {f : List Blk → List Blk} (h : kn hs) : kn (hs.map fun x => (x.1, f x.2)) := by
  unfold kn
  rw [List.map_map]; exact h
theorem filterH_kn {hs : Hs} {p : Str × List Blk → Bool} (h : kn hs) : kn (hs.filter p) := List.Nodup.sublist (List.Sublist.map _ (List.filter_sublist ..)) h
end G

/-! ## GEq -/
set_option Elab.async false
set_option linter.all false
set_option maxRecDepth 100000
namespace G
open PySem PySem.Spec PyProof.Rows L2
def rEqVK (K : PySem.W.Frag) : R2 := rEqV K
theorem eqVK {X : Cx} {K : PySem.W.Frag} (hu : X.A.units + 64 < cLine) (hK : X.K = K) : OpR X (compareOp .Eq) (rEqVK K) := by subst hK; exact op_eqV hu
theorem neTK {X : Cx} {K : PySem.W.Frag} (hu : X.A.units + 2 < cLine) (hK : X.K = K) : OpR X (compareOp .NotEq) (rNeT K) := by subst hK; exact op_neT hu
theorem HD.own {K : PySem.W.Frag} {G : Hp} : ∀ {kvs : List (Key × V)} {hs : Hs}, HD K G kvs hs → kn hs → ∀ q ∈ kvs, valV kvs q.1 = some q.2 ∧ ∃ a, q.2 = .ref a
  | _, _, .nil, _, q, hq => by cases hq
  | kv :: kvs, h :: hs, .cons r t, n, q, hq => by
    have n' := List.nodup_cons.mp n
    rcases List.mem_cons.mp hq with rfl | hq
    · obtain ⟨p, dx, qq, e, _⟩ := r.2
      exact ⟨valV_pos rfl, p, e⟩
    · have ih := HD.own t n'.2 q hq
      refine ⟨?_, ih.2⟩
      rw [valV_neg fun c => ?_]
      · exact ih.1
      · obtain ⟨i, hi⟩ := List.getElem?_of_mem hq
        obtain ⟨y, hy, ry⟩ := paired_get t hi
        have e1 : h.1 = y.1 := Sum.inr.inj ((r.1.symm.trans c).trans ry.1)
        exact n'.1 (by show h.1 ∈ _; rw [e1]; exact List.mem_map_of_mem (List.mem_of_getElem? hy))
theorem eqHeld {K : PySem.W.Frag} {G H : Hp} {a b : Addr} {kvs : List (Key × V)} {hs : Hs} {Q : VK} (h : HD K G kvs hs) (n : kn hs) (ha : H a = some (.dK kvs)) (hb : H b = some (.dK kvs)) (q : Q (.bl true) H) : rEqVK K (.ref a) (.ref b) H Q := by
  refine ⟨1, by decide, .inr ⟨a, b, kvs, kvs, rfl, rfl, ha, hb, rfl, fun p hp => ?_⟩, q⟩
  obtain ⟨h1, c, h2⟩ := h.own n p hp
  exact ⟨p.2, h1, .inr (.inl ⟨c, h2, h2⟩)⟩
def rSortD : List V → Hp → VK → Prop := fun xs H Q => ∃ (a : Addr) (kvs : List (Key × V)) (ks : List Str), xs = [.ref a] ∧ Rd H a (.dK kvs) ∧ kvs.map (·.1) = ks.map Sum.inr ∧ ks.length < 64 ∧
    ∀ ys p, ys.Perm ks → sortedS ys = true → H p = none → Q (.ref p) (upd H p (.lst (ys.map V.str)))
theorem sortD {X : Cx} (hc : X.calm = true) : CallR X (.builtin "sorted") rSortD := call_sortedD hc
theorem HD.keys {K : PySem.W.Frag} {G : Hp} : ∀ {kvs : List (Key × V)} {hs : Hs}, HD K G kvs hs → kvs.map (·.1) = (hs.map (·.1)).map Sum.inr
  | _, _, .nil => rfl
  | _, _, .cons r t => by rw [List.map_cons, List.map_cons, List.map_cons, r.1, HD.keys t]
theorem strs_paired {G : Hp} : ∀ (ns : List Str), Paired (IsS G) (ns.map V.str) ns
  | [] => .nil
  | n :: r => .cons rfl (strs_paired r)
/-- told: the keys, sorted; here of one key -/
theorem toldG {K : PySem.W.Frag} {G H : Hp} {a : Addr} {kvs : List (Key × V)} {hs : Hs} {Q : VK} (h : HD K G kvs hs) (m : Mu G H a (.dK kvs)) (e : Ex G H) (hz : hs.length < 64) (q : ∀ G1 H1 p ys, St G H G1 H1 → ys.Perm (hs.map (·.1)) → sortedS ys = true → IsL IsS G1 (.ref p) ys → Q (.ref p) H1) : rSortD [.ref a] H Q := by
  refine ⟨a, kvs, hs.map (·.1), rfl, .inl m.1, h.keys, by rw [List.length_map]; exact hz, fun ys p hp hs' hn => ?_⟩
  obtain ⟨s, g⟩ := alF (o := .lst (ys.map V.str)) hn e
  exact q _ _ p ys s hp hs' ⟨p, _, rfl, g, strs_paired ys⟩
end G

/-! ## GMax -/
set_option Elab.async false
set_option linter.all false
set_option maxRecDepth 100000
namespace G
open PySem PySem.Spec PyProof.Rows L2
def rMaxI : List V → Hp → VK → Prop := fun xs H Q => ∃ i j, xs = [.int i, .int j] ∧ Q (.int (if j > i then j else i)) H
theorem maxK {X : Cx} (hc : X.calm = true) : CallR X (.builtin "max") rMaxI := call_max2 hc
theorem x_lockS {te : TE} {i : Nat} {σ : L2.St} {H : Hp} {D : Ends} (h : tLockE te σ H fun v H1 => D.nx (σ.set i (some v)) H1) : tLock (tAsg te (gName i)) D σ H := h
def movedE (a : Int) (l : Option Int) (n : Int) : Option Rn := match l with
  | none => some ((if a + n > 1 then a + n else 1), none)
  | some l => if l + n < 1 then none else some ((if a + n > 1 then a + n else 1), some (l + n))
def movedB (b : Blk) (r c : Int) : List Blk := match movedE b.t b.b r, movedE b.l b.r c with
  | some u, some s => [⟨u.1, s.1, u.2, s.2⟩]
  | _, _ => []
end G

/-! ## GMir -/
set_option Elab.async false
set_option linter.all false
set_option maxRecDepth 100000
namespace G
open PySem PySem.Spec PyProof.Rows L2
/-! ### mirrors of areas and sheets, and when they are covered -/
def endB (a : Int) : Option Int → Bool
  | none => true
  | some l => decide (1 ≤ l) && decide (a ≤ l)
def okB (b : Blk) : Bool := decide (1 ≤ b.t) && decide (1 ≤ b.l) && endB b.t b.b && endB b.l b.r
def okF (bs : List Band) : Bool := chained bs && (formRaw bs).all okB && apart (formRaw bs) && decide ((formRaw bs).length ≤ 1500)
def kOr (a b : Bool) : Bool := a || b
def norm (xs : List Blk) : List Blk := formOf (bandsBy xs [] fun a b => a || b)
def okN (xs : List Blk) : Bool := decide (xs.length ≤ 1500) && okF (bandsBy xs [] fun a b => a || b)
def hasB (b : Blk) (r k : Int) : Bool := isAt b.t b.b r && isAt b.l b.r k
def okBy (xs ys : List Blk) (g : Bool → Bool → Bool) : Bool := decide (xs.length + ys.length ≤ 1500) && okF (bandsBy xs ys g) && okN (formOf (bandsBy xs ys g))
def byA (xs ys : List Blk) (g : Bool → Bool → Bool) : List Blk := norm (formOf (bandsBy xs ys g))
def vsigns : List Nat := (Str.ofString "abcdefghijklmnopqrstuvwxyz0123456789 ").cps.toList
def okV (z : Str) : Bool := decide (z.cps.size ≤ 40) && z.cps.toList.all fun c => decide (c ∈ vsigns)
def wholeB : List Blk := [⟨1, 1, none, none⟩]
def szH (hs : Hs) : Bool := hs.all fun h => decide (h.2.length ≤ 1500)
def cutH (hs : Hs) (a : List Blk) : Hs := hs.map fun h => (h.1, byA h.2 a fun a b => a && !b)
def gotH (hs : Hs) (a : List Blk) (z : Str) : List Blk := (getH (cutH hs a) z).getD []
def preH (hs : Hs) (a : List Blk) (z : Str) : Hs := putH (cutH hs a) z (byA (gotH hs a z) a fun a b => a || b)
def fillH (hs : Hs) (a : List Blk) (z : Str) : Hs := (preH hs a z).filter nonE
def okFill (hs : Hs) (a : List Blk) (z : Str) : Bool := (hs.all fun h => okBy h.2 a fun a b => a && !b) && okBy (gotH hs a z) a (fun a b => a || b) && szH (preH hs a z) && decide (hs.length ≤ 50)
def valH (hs : Hs) (r k : Int) : List Str := (hs.filter fun h => h.2.any fun b => hasB b r k).map (·.1)
def rawP (hs : Hs) : List (Blk × Str) := hs.flatMap fun h => if h.1 = Str.ofString "" then [] else h.2.map fun b => (b, h.1)
def movedA (xs : List Blk) (r c : Int) : List Blk := xs.flatMap fun b => movedB b r c
def okMove (xs : List Blk) (r c : Int) : Bool := decide (xs.length ≤ 1500) && (movedA xs r c).all okB && okN (movedA xs r c)
def partsL (hq : Hs) (r c : Int) : List (List Blk × Str) := (hq.filter fun h => !decide (h.1 = Str.ofString "")).map fun h => (norm (movedA h.2 r c), h.1)
def okL : Hs → List (List Blk × Str) → Bool
  | _, [] => true
  | hs, (a, z) :: r => okFill hs a z && (okV z && (decide (z.cps.size ≤ 1000) && okL (fillH hs a z) r))
def laidH (hs : Hs) (ps : List (List Blk × Str)) : Hs := ps.foldl (fun h p => fillH h p.1 p.2) hs
def okLaid (hs hq : Hs) (r c : Int) : Bool := (hq.all fun h => okMove h.2 r c) && okL hs (partsL hq r c) && decide (hq.length ≤ 100)
end G

/-! ## PF -/
set_option Elab.async false
set_option linter.all false
set_option maxRecDepth 100000
namespace GT
open PySem PySem.Spec PyProof.Rows L2 G
local macro_rules | `(tactic| walk_at "ex") => `(tactic| first | exact Ex.refl _ | assumption | exact Stm.g (by assumption) | (refine Ex.trans ?_ (Stm.g (by assumption)); walk_at "ex"))
local macro_rules | `(tactic| walk_at "st") => `(tactic| first | exact Stm.refl (by assumption) | assumption | (refine Stm.trans ?_ (by assumption); walk_at "st"))
local macro_rules | `(tactic| walk_at "i") => `(tactic| first | assumption | exact Stm.i (by assumption))
local macro_rules | `(tactic| walk_at "fact") => `(tactic| first | rfl | exact (rfl : V.non = optV none) | exact (rfl : V.int _ = optV (some _)) | assumption)
local macro_rules | `(tactic| walk_at "g") => `(tactic| first
  | with_reducible refine x_seq ?_
  | with_reducible refine x_next ?_
  | with_reducible refine x_asg ?_
  | with_reducible refine x_ret ?_
  | with_reducible refine x_retN ?_
  | with_reducible refine x_drop ?_
  | with_reducible refine x_ifs ?_
  | ((with_reducible refine' x_var ?hv ?_); (case hv => exact rfl))
  | with_reducible refine x_c ?_
  | with_reducible refine x_op ?_
  | with_reducible refine x_un ?_
  | with_reducible refine x_test ?_
  | with_reducible refine x_B ?_
  | with_reducible refine x_bl ?_
  | with_reducible refine x_and ?_
  | with_reducible refine x_or ?_
  | with_reducible refine x_not ?_
  | with_reducible refine x_andV ?_
  | with_reducible refine x_orV ?_
  | with_reducible refine x_notV ?_
  | with_reducible refine x_ife ?_
  | with_reducible refine x_isN ?_
  | with_reducible refine x_notN ?_
  | with_reducible refine x_nil ?_
  | with_reducible refine x_cons ?_
  | with_reducible refine x_cb ?_
  | with_reducible refine x_call ?_
  | ((with_reducible refine' x_callL ?hv ?_); (case hv => exact rfl))
  | with_reducible refine x_gname ?_
  | with_reducible refine x_I0 ?_
  | ((with_reducible refine' x_eq ?hv ?_); (case hv => exact rfl))
  | ((with_reducible refine' x_ne ?hv ?_); (case hv => exact rfl))
  | with_reducible refine x_tupG ?_
  | with_reducible refine x_lstG ?_
  | with_reducible refine x_lc ?_
  | (with_reducible refine x_U ?_)
  | ((with_reducible refine' ite_T ?hv ?_); (case hv => exact rfl))
  | ((with_reducible refine' ite_F ?hv ?_); (case hv => exact rfl))
  | with_reducible refine x_for ?_
  | with_reducible refine x_iEnum ?_
  | with_reducible refine x_iList ?_
  | with_reducible refine x_iTup ?_
  | with_reducible refine x_gcons ?_
  | with_reducible refine x_gnil ?_
  | with_reducible refine x_bm ?_
  | with_reducible refine x_fldG ?_
  | with_reducible refine x_meth ?_
  | with_reducible refine x_sl ?_
  | with_reducible refine x_nopart ?_
  | with_reducible refine x_part ?_
  | with_reducible refine x_int ?_
  | with_reducible refine x_yes ?_
  | with_reducible refine x_isNG ?_
  | with_reducible refine x_notNG ?_
  | fail "no step")
local macro_rules | `(tactic| walk_at "g2") => `(tactic| first
  | with_reducible refine x_sfld ?_
  | with_reducible refine x_make ?_
  | with_reducible refine x_dnew ?_
  | with_reducible refine x_lcT ?_
  | with_reducible refine x_lcS ?_
  | with_reducible refine x_disp ?_
  | with_reducible refine x_pcons ?_
  | with_reducible refine x_pnil ?_
  | with_reducible refine x_dnewK ?_
  | with_reducible refine x_dput ?_
  | with_reducible refine x_gsub ?_
  | with_reducible refine x_dget2 ?_
  | with_reducible refine x_litems ?_
  | with_reducible refine x_bmX ?_
  | with_reducible refine x_ckw ?_
  | with_reducible refine L2Z.x_methS ?_
  | with_reducible refine L2Z.x_methN ?_
  | with_reducible refine x_callSD ?_
  | with_reducible refine x_lcZ ?_
  | walk_at "g")
local macro_rules | `(tactic| walk_at "go") => `(tactic| repeat' walk_at "g2")

section
variable {P : Program} {w : World} {K : PySem.W.Frag} {mg : Str → Option Value} {base : Heap}
def sp_Block_init (K : PySem.W.Frag) : Sp := fun vs H Q _ => ∃ x dx b, vs = [.ref x, .int b.t, .int b.l, optV b.b, optV b.r] ∧ H x = some (.ins (He.ga K "Block") dx []) ∧ okB b = true ∧ Q .non (upd H x (.ins (He.ga K "Block") dx (blkF b)))
theorem sc_Block___init__ : FnScope ["self", "top", "left", "bottom", "right"] ["self", "top", "left", "bottom", "right"] (defScope s_Block___init__) := ⟨rfl, rfl, rfl, by decide +kernel, rfl, by decide +kernel, by decide +kernel⟩
theorem ok_Block___init__ (T : TX K mg) : FnOk P w K mg base CX0 4 (f_Block___init__ K) (fdO K (f_Block___init__ K)) ["self", "top", "left", "bottom", "right"] (sp_Block_init K) := by
  refine (F_Block___init__ T).ok sc_Block___init__ (fun vs H Q E h => ?_) (fun cdv A outer s H vs Q E hr h => ?_)
  · obtain ⟨_, _, _, rfl, _⟩ := h; rfl
  · obtain ⟨x, dx, b, rfl, hx, ok, k⟩ := h
    have ok' := ok
    unfold okB at ok'
    rw [Bool.and_eq_true, Bool.and_eq_true, Bool.and_eq_true] at ok'
    obtain ⟨⟨⟨o1, o2⟩, o3⟩, o4⟩ := ok'
    refine ⟨_, PSs.nox (pss_cons (ps_if (PW.pt (pw_or (pt_not (pt_val (pe_call (ok_is_count T) (hr.mono (by decide)) (by rfl) (g_is_count T) (F_is_count T).kp (b_is_count T) .nil pass0 (pa_cons (pv 1) pa_nil)))) (pw_or (pt_not (pt_val (pe_call (ok_is_count T) (hr.mono (by decide)) (by rfl) (g_is_count T) (F_is_count T).kp (b_is_count T) .nil pass0 (pa_cons (pv 2) pa_nil)))) (pw_or (pt_not (pt_val (pe_call (ok_is_end T) (hr.mono (by decide)) (by rfl) (g_is_end T) (F_is_end T).kp (b_is_end T) .nil pass0 (pa_cons (pv 1) (pa_cons (pv 3) pa_nil))))) (pw_or1 (pt_not (pt_val (pe_call (ok_is_end T) (hr.mono (by decide)) (by rfl) (g_is_end T) (F_is_end T).kp (b_is_end T) .nil pass0 (pa_cons (pv 2) (pa_cons (pv 4) pa_nil)))))))))) (pss_one ps_never) pss_nil)
      (pss_cons (ps_fld (pv 0) (pv 1) (by rfl))
      (pss_cons (ps_fld (pv 0) (pv 2) (by rfl))
      (pss_cons (ps_fld (pv 0) (pv 3) (by rfl))
      (pss_one (ps_fld (pv 0) (pv 4) (by rfl))))))), ?_⟩
    walk_at "go"
    refine ⟨_, rfl, Knd.int, _, rfl, ?_⟩
    have c1 : countV (.int b.t) = true := o1
    have c2 : countV (.int b.l) = true := o2
    rw [c1]
    walk_at "go"
    refine ⟨_, rfl, Knd.int, _, rfl, ?_⟩
    rw [c2]
    walk_at "go"
    refine ⟨_, _, rfl, _, rfl, ?_⟩
    refine ite_F (congrArg Bool.not o3) ?_
    walk_at "go"
    refine ⟨_, _, rfl, _, rfl, ?_⟩
    refine ite_F (congrArg Bool.not o4) ?_
    walk_at "go"
    refine setF hx (k_Block T) (n_Block_top T) (by decide) ?_
    walk_at "go"
    refine setF upd_same (k_Block T) (n_Block_left T) (Nat.lt_of_le_of_lt (length_putF _ _ _) (by decide)) ?_
    rw [upd_upd]
    walk_at "go"
    refine setF upd_same (k_Block T) (n_Block_bottom T) ?_ ?_
    · refine Nat.lt_of_le_of_lt (length_putF _ _ _) (Nat.lt_of_le_of_lt (Nat.succ_le_succ (length_putF _ _ _)) (by decide))
    rw [upd_upd]
    walk_at "go"
    refine setF upd_same (k_Block T) (n_Block_right T) ?_ ?_
    · refine Nat.lt_of_le_of_lt (length_putF _ _ _) (Nat.lt_of_le_of_lt (Nat.succ_le_succ (length_putF _ _ _)) (Nat.lt_of_le_of_lt (Nat.succ_le_succ (Nat.succ_le_succ (length_putF _ _ _))) (by decide)))
    rw [upd_upd]
    exact k
theorem mkBlk {G H : Hp} {dvs vs : List V} {Q : VK} {E : XK} {b : Blk} (hv : vs ++ dvs = [.int b.t, .int b.l, optV b.b, optV b.r]) (ok : okB b = true) (e : Ex G H) (h : ∀ p G1 H1, St G H G1 H1 → IsBlk K G1 (.ref p) b → Q (.ref p) H1) :
    MakeGo (He.ga K "Block") (sp_Block_init K) dvs vs H Q E := by
  refine makeG e fun x dx H1 hx hd hn s1 m1 => ⟨x, dx, b, by rw [hv], m1.1, ok, rfl, ?_⟩
  obtain ⟨s2, m2⟩ := chgF (o' := .ins (He.ga K "Block") dx (blkF b)) m1 s1.i
  obtain ⟨s3, g3⟩ := freeze m2 s2.i
  exact h x _ _ (Stm.fresh s1 (s2.trans s3) fun a ha => by rw [List.mem_singleton.mp ha]; exact hx) ⟨x, dx, rfl, g3⟩
end
end GT

/-! ## PG -/
set_option Elab.async false
set_option linter.all false
set_option maxRecDepth 100000
namespace GT
open PySem PySem.Spec PyProof.Rows L2 G
local macro_rules | `(tactic| walk_at "ex") => `(tactic| first | exact Ex.refl _ | assumption | exact Stm.g (by assumption) | (refine Ex.trans ?_ (Stm.g (by assumption)); walk_at "ex"))
local macro_rules | `(tactic| walk_at "st") => `(tactic| first | exact Stm.refl (by assumption) | assumption | (refine Stm.trans ?_ (by assumption); walk_at "st"))
local macro_rules | `(tactic| walk_at "i") => `(tactic| first | assumption | exact Stm.i (by assumption))
local macro_rules | `(tactic| walk_at "fact") => `(tactic| first | rfl | exact (rfl : V.non = optV none) | exact (rfl : V.int _ = optV (some _)) | assumption)
local macro_rules | `(tactic| walk_at "g") => `(tactic| first
  | with_reducible refine x_seq ?_
  | with_reducible refine x_next ?_
  | with_reducible refine x_asg ?_
  | with_reducible refine x_ret ?_
  | with_reducible refine x_retN ?_
  | with_reducible refine x_drop ?_
  | with_reducible refine x_ifs ?_
  | ((with_reducible refine' x_var ?hv ?_); (case hv => exact rfl))
  | with_reducible refine x_c ?_
  | with_reducible refine x_op ?_
  | with_reducible refine x_un ?_
  | with_reducible refine x_test ?_
  | with_reducible refine x_B ?_
  | with_reducible refine x_bl ?_
  | with_reducible refine x_and ?_
  | with_reducible refine x_or ?_
  | with_reducible refine x_not ?_
  | with_reducible refine x_andV ?_
  | with_reducible refine x_orV ?_
  | with_reducible refine x_notV ?_
  | with_reducible refine x_ife ?_
  | with_reducible refine x_isN ?_
  | with_reducible refine x_notN ?_
  | with_reducible refine x_nil ?_
  | with_reducible refine x_cons ?_
  | with_reducible refine x_cb ?_
  | with_reducible refine x_call ?_
  | ((with_reducible refine' x_callL ?hv ?_); (case hv => exact rfl))
  | with_reducible refine x_gname ?_
  | with_reducible refine x_I0 ?_
  | ((with_reducible refine' x_eq ?hv ?_); (case hv => exact rfl))
  | ((with_reducible refine' x_ne ?hv ?_); (case hv => exact rfl))
  | with_reducible refine x_tupG ?_
  | with_reducible refine x_lstG ?_
  | with_reducible refine x_lc ?_
  | (with_reducible refine x_U ?_)
  | ((with_reducible refine' ite_T ?hv ?_); (case hv => exact rfl))
  | ((with_reducible refine' ite_F ?hv ?_); (case hv => exact rfl))
  | with_reducible refine x_for ?_
  | with_reducible refine x_iEnum ?_
  | with_reducible refine x_iList ?_
  | with_reducible refine x_iTup ?_
  | with_reducible refine x_gcons ?_
  | with_reducible refine x_gnil ?_
  | with_reducible refine x_bm ?_
  | with_reducible refine x_fldG ?_
  | with_reducible refine x_meth ?_
  | with_reducible refine x_sl ?_
  | with_reducible refine x_nopart ?_
  | with_reducible refine x_part ?_
  | with_reducible refine x_int ?_
  | with_reducible refine x_yes ?_
  | with_reducible refine x_isNG ?_
  | with_reducible refine x_notNG ?_
  | fail "no step")
local macro_rules | `(tactic| walk_at "g2") => `(tactic| first
  | with_reducible refine x_sfld ?_
  | with_reducible refine x_make ?_
  | with_reducible refine x_dnew ?_
  | with_reducible refine x_lcT ?_
  | with_reducible refine x_lcS ?_
  | with_reducible refine x_disp ?_
  | with_reducible refine x_pcons ?_
  | with_reducible refine x_pnil ?_
  | with_reducible refine x_dnewK ?_
  | with_reducible refine x_dput ?_
  | with_reducible refine x_gsub ?_
  | with_reducible refine x_dget2 ?_
  | with_reducible refine x_litems ?_
  | with_reducible refine x_bmX ?_
  | with_reducible refine x_ckw ?_
  | with_reducible refine L2Z.x_methS ?_
  | with_reducible refine L2Z.x_methN ?_
  | with_reducible refine x_callSD ?_
  | with_reducible refine x_lcZ ?_
  | walk_at "g")
local macro_rules | `(tactic| walk_at "go") => `(tactic| repeat' walk_at "g2")

section
variable {P : Program} {w : World} {K : PySem.W.Frag} {mg : Str → Option Value} {base : Heap}
abbrev bkey (b : Blk) : Int × Int := (b.t, b.l)
theorem sc_first_cell : FnScope ["block"] ["block"] (defScope s_first_cell) := ⟨rfl, rfl, rfl, by decide +kernel, rfl, by decide +kernel, by decide +kernel⟩
variable (key : V → Int × Int) in
theorem ok_first_cell (T : TX K mg) : FnOk P w K mg base CX0 1 (f_first_cell K) (fdO K (f_first_cell K)) ["block"] (SpKey (GoodR (IsBlk K) bkey key) key) := by
  refine (F_first_cell T).ok sc_first_cell (fun vs H Q E h => ?_) (fun cdv A outer s H vs Q E hr h => ?_)
  · obtain ⟨_, rfl, _⟩ := h; rfl
  · obtain ⟨x, rfl, ⟨b, hb, ek⟩, k⟩ := h
    refine ⟨_, PSs.nox (pss_one (ps_ret (pe_tup (pa_cons (fldK (K := K) (pv 0) (by rfl) (by rfl)) (pa_cons (fldK (K := K) (pv 0) (by rfl) (by rfl)) pa_nil))))), ?_⟩
    walk_at "go"
    refine fB_top T hb (Ex.refl H) ?_
    walk_at "go"
    refine fB_left T hb (Ex.refl H) ?_
    walk_at "go"
    refine ⟨by show 2 ≤ sizeLine; decide, fun p hp => ?_⟩
    refine k _ p (Ex.new hp) ?_
    rw [upd_same, ek]
def sp_form_of (K : PySem.W.Frag) : Sp := fun vs H Q _ => ∃ G v bs, vs = [v] ∧ Ex G H ∧ IsL IsBand G v bs ∧ chained bs = true ∧ (formRaw bs).all okB = true ∧ apart (formRaw bs) = true ∧ (formRaw bs).length ≤ 1500 ∧
  ∀ G1 H1 r, St G H G1 H1 → IsL (IsBlk K) G1 r (formOf bs) → Q r H1
theorem sc_form_of : FnScope ["bands", "found", "begun", "behind", "first", "last", "runs", "run", "top"] ["bands"] (defScope s_form_of) := ⟨rfl, rfl, rfl, by decide +kernel, rfl, by decide +kernel, by decide +kernel⟩
theorem ok_form_of (T : TX K mg) : FnOk P w K mg base CX0 6 (f_form_of K) (fdO K (f_form_of K)) ["bands"] (sp_form_of K) := by
  refine (F_form_of T).ok sc_form_of (fun vs H Q E h => ?_) (fun cdv A outer s H vs Q E hr h => ?_)
  · obtain ⟨_, _, _, rfl, _⟩ := h; rfl
  · obtain ⟨G0, v, bs, rfl, e, hx, hch, hok, hap, hlen, k⟩ := h
    refine ⟨_, PSs.nox (pss_cons (ps_set (i := 1) sc_form_of.nd rfl (by first | exact Or.inl rfl | exact Or.inr rfl) (pe_lst pa_nil))
      (pss_cons (ps_set (i := 2) sc_form_of.nd rfl (by first | exact Or.inl rfl | exact Or.inr rfl) pe_dnewX)
      (pss_cons (ps_set (i := 3) sc_form_of.nd rfl (by first | exact Or.inl rfl | exact Or.inr rfl) pe_int)
      (pss_cons (ps_for PassesOwn.never rfl (pi_list (pv 0)) (pg_tup (by rfl) (pgs_cons (pg_name (i := 4) sc_form_of.nd rfl (by first | exact Or.inl rfl | exact Or.inr rfl)) (pgs_cons (pg_name (i := 5) sc_form_of.nd rfl (by first | exact Or.inl rfl | exact Or.inr rfl)) (pgs_cons (pg_name (i := 6) sc_form_of.nd rfl (by first | exact Or.inl rfl | exact Or.inr rfl)) pgs_nil)))) (pss_cons (ps_for PassesOwn.never rfl (pi_list (pe_listItemsX rfl (pv 2) (by rfl) (z_list T) (by decide +kernel))) (pg_tup (by rfl) (pgs_cons (pg_name (i := 7) sc_form_of.nd rfl (by first | exact Or.inl rfl | exact Or.inr rfl)) (pgs_cons (pg_name (i := 8) sc_form_of.nd rfl (by first | exact Or.inl rfl | exact Or.inr rfl)) pgs_nil))) (pss_one (ps_if (PW.pt (pw_or (pt_cmpR (op_notInD (lt65 hr)) (pv 7) (pv 6) (by rfl)) (pw_or1 (pt_cmpR op_ne (pv 4) (pe_op op_add (pv 3) pe_int) (nomark _))))) (pss_cons (ps_expr (pe_bm PySem.F.plainAttrs_list PySem.F.slot_list_append PySem.F.type_list_append mt_append (pv 1) (pa_cons (pe_make (mk_Block T) (ok_Block___init__ T) (hr.mono (by decide)) (by rfl) (g_Block T) (b_Block___init___5 T).choose_spec.2 (b_Block___init___5 T).choose_spec.1 pass0 (pa_cons (pv 8) (pa_cons (pe_ix (ixTK (K := K) (by rfl)) (pv 7) pe_int (fun _ _ => rfl)) (pa_cons (pv 3) (pa_cons (pe_ix (ixTK (K := K) (by rfl)) (pv 7) pe_int (fun _ _ => rfl)) pa_nil))))) pa_nil)))
      (pss_one (ps_expr (pe_bmX PySem.F.slot_dict_pop PySem.F.type_dict_pop (mt_popX hr) (pv 2) (pa_cons (pv 7) pa_nil))))) pss_nil)))
      (pss_cons (ps_for PassesOwn.never rfl (pi_list (pv 6)) (pg_name (i := 7) sc_form_of.nd rfl (by first | exact Or.inl rfl | exact Or.inr rfl)) (pss_one (ps_expr (pe_bmX PySem.F.slot_dict_setdefault PySem.F.type_dict_setdefault (mt_setdX hr) (pv 2) (pa_cons (pv 7) (pa_cons (pv 4) pa_nil))))))
      (pss_one (ps_set (i := 3) sc_form_of.nd rfl (by first | exact Or.inl rfl | exact Or.inr rfl) (pv 5))))))
      (pss_cons (ps_expr (pe_bm PySem.F.plainAttrs_list PySem.F.slot_list_extend PySem.F.type_list_extend mt_extend (pv 1) (pa_cons (pe_lock (pe_lc (own := [("run", 7), ("top", 8)]) (g := gTup K 2 (gCons (gName 7) (gCons (gName 8) gNil))) (by rfl) sc_form_of.nd (pi_itemsX (pv 2)) (blkOk_by (own := [("run", 7), ("top", 8)]) (N := ["bands", "found", "begun", "behind", "first", "last", "runs", "run", "top"]) (sc := defScope s_form_of) (by decide +kernel)) (fun _ _ _ _ _ => (pg_tup (by rfl) (pgs_cons (pg_name (i := 7) sc_form_of.nd rfl (by first | exact Or.inl rfl | exact Or.inr rfl)) (pgs_cons (pg_name (i := 8) sc_form_of.nd rfl (by first | exact Or.inl rfl | exact Or.inr rfl)) pgs_nil)))) (fun _ _ _ _ _ => pts_nil) (fun _ _ _ _ _ => (pe_make (mk_Block T) (ok_Block___init__ T) (hr.mono (by decide)) (by rfl) (g_Block T) (b_Block___init___5 T).choose_spec.2 (b_Block___init___5 T).choose_spec.1 pass0 (pa_cons (pv 8) (pa_cons (pe_ix (ixTK (K := K) (by rfl)) (pv 7) pe_int (fun _ _ => rfl)) (pa_cons (pv 3) (pa_cons (pe_ix (ixTK (K := K) (by rfl)) (pv 7) pe_int (fun _ _ => rfl)) pa_nil)))))))) pa_nil)))
      (pss_one (ps_ret (pe_callBK (cr_sortKE (K := K) (fun key => ok_first_cell key T) (b_first_cell T) (hr.mono (by decide)) (GoodR.mono IsBlk.mono) (by rfl)) (by rfl) (z_sorted T) (by decide +kernel) (pa_cons (pv 1) pa_nil) (pk_cons (pe_glob (v := .ref (He.ga K "first_cell")) (by rfl) (g_first_cell T) rfl) pk_nil))))))))), ?_⟩
    walk_at "go"
    refine lstM e (Nat.zero_le _) fun pf H1 hpf s1 m1 => ?_
    walk_at "go"
    refine dnewX s1.i fun d H2 hd s2 m2 => ?_
    have m1' := s2.mu m1
    have hne : pf ≠ d := fun c => by have q := m1.1; rw [c, hd] at q; cases q
    have m2 : MuX P w G0 H2 d [] := m2
    walk_at "go"
    have hlt : ∀ i, (formSt (bs.take i)).found.length + (formSt (bs.take i)).begun.length ≤ 1500 := fun i => Nat.le_trans (cnt bs i) hlen
    have hbig : 1501 < sizeLine := by decide
    refine forG IsBand.mono hx s2.i (fun i σ' G' H' => ∃ o4 o5 o6 o7 o8 acc, σ' = [some v, some (.ref pf), some (.ref d), some (optV (formSt (bs.take i)).behind), o4, o5, o6, o7, o8] ∧ Stm [pf, d] G0 H2 G' H' ∧ Mu G' H' pf (.lst acc) ∧ Paired (IsBlk K G') acc (formSt (bs.take i)).found ∧ MuX P w G' H' d (formSt (bs.take i)).begun)
      ⟨none, none, none, none, none, [], rfl, Stm.refl s2.i, m1', .nil, m2⟩ (fun i σ' G' H' _ ⟨_, _, _, _, _, _, _, s, _⟩ => ⟨s.g, s.i⟩) ?_ ?_
    · rintro i b w' σ1 G3 H3 hi ⟨o4, o5, o6, o7, o8, acc, rfl, sA, mF, pF, mD⟩ hw
      have hil : i < bs.length := (List.getElem?_eq_some_iff.mp hi).1
      have hmore := formSt_more hi
      have hcnt := hlt (i + 1)
      rw [hmore] at hcnt
      have hcnt0 := hlt i
      have hnd := st_nd (bs.take i)
      obtain ⟨z, hz⟩ := behind_some hch hil
      have hfm : ∀ x ∈ (formStep (formSt (bs.take i)) b).found, okB x = true := fun x hx => by
        rw [← hmore] at hx
        exact List.all_eq_true.mp hok x (found_mem hx)
      rw [hmore]
      revert hcnt hcnt0 hnd hfm pF mD
      generalize formSt (bs.take i) = S at hz ⊢
      obtain ⟨F, B, bh⟩ := S
      cases hz
      intro pF mD hcnt hcnt0 hnd hfm
      refine x_gtup3 hw sA.i fun w1 w2 w3 hw1 hw2 hw3 => ?_
      obtain ⟨f, l, rs⟩ := b
      cases hw1
      cases hw2
      walk_at "go"
      refine itemsL mD sA.i fun G4 H4 p4 s4 h4 => ?_
      walk_at "go"
      have mF4 := s4.mu mF
      have mD4 := mD.st s4
      have pF4 := paired_imp (fun a b q => IsBlk.mono _ _ a b s4.g q) pF
      have h3 := IsL.mono IsRn.mono _ _ _ _ s4.g hw3
      refine forG IsRnI.mono h4 s4.i (fun j σ' G' H' => ∃ o7 o8 acc, σ' = [some v, some (.ref pf), some (.ref d), some (.int z), some (.int f), some (optV l), some w3, o7, o8] ∧ Stm [pf, d] G4 H4 G' H' ∧ Mu G' H' pf (.lst acc) ∧ Paired (IsBlk K G') acc (F ++ ((B.take j).filter (gone (some z) f rs)).map (mkB (some z))) ∧ MuX P w G' H' d ((B.take j).filter (keep (some z) f rs) ++ B.drop j))
        ⟨o7, o8, acc, rfl, Stm.refl s4.i, mF4, by simpa using pF4, by simpa using mD4⟩ (fun i σ' G' H' _ ⟨_, _, _, _, s, _⟩ => ⟨s.g, s.i⟩) ?_ ?_
      · rintro j x w' σ1 G5 H5 hj ⟨o7, o8, acc, rfl, sB, mF5, pF5, mD5⟩ hwx
        refine x_gtup2 hwx sB.i fun wr wt hwr hwt => ?_
        cases hwt
        have h35 := IsL.mono IsRn.mono _ _ _ _ sB.g h3
        have hjl : j < B.length := (List.getElem?_eq_some_iff.mp hj).1
        have hxB : x ∈ B := List.mem_of_getElem? hj
        have hdj : B.drop j = x :: B.drop (j + 1) := by rw [List.drop_eq_getElem_cons hjl, (List.getElem?_eq_some_iff.mp hj).2]
        have hbeg : (List.filter (keep (some z) f rs) (List.take j B) ++ List.drop j B).length ≤ 1500 := by
          have q1 := List.length_filter_le (keep (some z) f rs) (List.take j B)
          have q2 : (List.take j B).length + (List.drop j B).length = B.length := by rw [List.length_take, List.length_drop]; omega
          rw [List.length_append]
          simp only at hcnt0
          omega
        have hg2 : ∀ b, b = gone (some z) f rs x → keep (some z) f rs x = !b := fun b e => by rw [e]; rfl
        refine x_ifs (orP (a := !rs.contains x.1) (b := !decide (f = z + 1)) (fun R h => ?_) (fun R h => ?_) ?_)
        · walk_at "go"
          exact notInRn hwr h35 sB.i ⟨_, rfl, h⟩
        · walk_at "go"
          have e2 : decide (V.int f = V.int (z + 1)) = decide (f = z + 1) := by
            by_cases c : f = z + 1
            · subst c; simp
            · rw [decide_eq_false c, decide_eq_false fun q => c (V.int.inj q)]
          rw [e2]; exact h
        · refine ite_b2 (fun h1 => ?_) (fun h1 => ?_)
          · have hgo : gone (some z) f rs x = true := h1
            have hke : keep (some z) f rs x = false := by unfold keep; rw [hgo]; rfl
            walk_at "go"
            refine ⟨x_tyL mF5, ?_⟩
            walk_at "go"
            refine x_ixT0 hwr sB.i fun wa hwa => ?_
            cases hwa
            walk_at "go"
            refine x_ixT1 hwr sB.i fun wb hwb => ?_
            cases hwb
            walk_at "go"
            have hmem : mkB (some z) x ∈ (formStep { found := F, begun := B, behind := some z } (f, l, rs)).found := List.mem_append_right _ (List.mem_map_of_mem (List.mem_filter.mpr ⟨hxB, hgo⟩))
            refine mkBlk (b := mkB (some z) x) rfl (hfm _ hmem) sB.i fun pb G6 H6 s6 hb6 => ?_
            walk_at "go"
            have hacc : acc.length < sizeLine := by
              rw [paired_len pF5, List.length_append, List.length_map]
              have q1 := List.length_filter_le (gone (some z) f rs) (List.take j B)
              have q2 : (List.take j B).length ≤ B.length := by rw [List.length_take]; exact Nat.min_le_right _ _
              simp only at hcnt0
              omega
            refine x_app (s6.mu mF5) s6.i hacc fun H7 s7 m7 => ?_
            have mD7 := (mD5.st s6).to s7 (fun q => hne (List.mem_singleton.mp q).symm)
            walk_at "go"
            refine ⟨tyX mD7, ?_⟩
            walk_at "go"
            have hin : ((List.filter (keep (some z) f rs) (List.take j B) ++ List.drop j B).any fun y => decide (y.1 = x.1)) = true := by
              rw [hdj]
              exact List.any_eq_true.mpr ⟨x, List.mem_append_right _ (List.mem_cons_self ..), decide_eq_true rfl⟩
            refine popG mD7 s7.i (IsRn.mono _ _ _ _ s6.g hwr) hin fun H8 u s8 m8 => ?_
            walk_at "go"
            rw [drop_mid hnd hj] at m8
            refine ⟨G6, _, _, _, rfl, (sB.trans (St.up s6)).trans ((s7.sub (by simp)).trans (s8.sub (by simp))), s8.m _ _ (fun q => hne (List.mem_singleton.mp q)) m7, ?_, ?_⟩
            · rw [gone_take hj, if_pos hgo, List.map_append, ← List.append_assoc]
              exact paired_snoc hb6 (paired_imp (fun a b q => IsBlk.mono _ _ a b s6.g q) pF5)
            · rw [gone_take hj, if_neg (by rw [hke]; exact Bool.false_ne_true), List.append_nil]
              exact m8
          · have hgo : gone (some z) f rs x = false := h1
            have hke : keep (some z) f rs x = true := by unfold keep; rw [hgo]; rfl
            walk_at "go"
            refine ⟨G5, _, _, _, rfl, sB, mF5, ?_, ?_⟩
            · rw [gone_take hj, if_neg (by rw [hgo]; exact Bool.false_ne_true), List.append_nil]
              exact pF5
            · rw [gone_take hj, if_pos hke, List.append_assoc, List.singleton_append, ← hdj]
              exact mD5
      · rintro σ' G5 H5 ⟨o7, o8, acc, rfl, sB, mF5, pF5, mD5⟩
        simp only [List.take_length, List.drop_length, List.append_nil] at pF5 mD5
        walk_at "go"
        have h35 := IsL.mono IsRn.mono _ _ _ _ sB.g h3
        refine forG IsRn.mono h35 sB.i (fun j σ' G' H' => ∃ o7, σ' = [some v, some (.ref pf), some (.ref d), some (.int z), some (.int f), some (optV l), some w3, o7, o8] ∧ Stm [pf, d] G5 H5 G' H' ∧ Mu G' H' pf (.lst acc) ∧ MuX P w G' H' d ((rs.take j).foldl (setd f) (B.filter (keep (some z) f rs))))
          ⟨o7, rfl, Stm.refl sB.i, mF5, mD5⟩ (fun i σ' G' H' _ ⟨_, _, s, _⟩ => ⟨s.g, s.i⟩) ?_ ?_
        · rintro j x w' σ1 G6 H6 hj ⟨o7, rfl, sC, mF6, mD6⟩ hwx
          have hjm := fold_more (f := setd f) (b := B.filter (keep (some z) f rs)) hj
          walk_at "go"
          refine ⟨tyX mD6, ?_⟩
          walk_at "go"
          have hbl : ((rs.take j).foldl (setd f) (B.filter (keep (some z) f rs))).length < sizeLine := by
            have q1 := setds_part f rs (B.filter (keep (some z) f rs)) j
            have q2 : (rs.foldl (setd f) (B.filter (keep (some z) f rs))).length ≤ 1500 := Nat.le_trans (Nat.le_add_left _ _) hcnt
            omega
          refine setdG mD6 sC.i hwx hbl fun H7 u s7 m7 => ?_
          walk_at "go"
          refine ⟨G6, _, rfl, sC.trans (s7.sub (by simp)), s7.m _ _ (fun q => hne (List.mem_singleton.mp q)) mF6, ?_⟩
          rw [hjm]; exact m7
        · rintro σ' G6 H6 ⟨o7, rfl, sC, mF6, mD6⟩
          rw [List.take_length] at mD6
          walk_at "go"
          exact ⟨G6, _, _, _, _, _, acc, rfl, (sA.trans (St.up s4)).trans (sB.trans sC), mF6, paired_imp (fun a b q => IsBlk.mono _ _ a b sC.g q) pF5, mD6⟩
    · rintro σ' G3 H3 ⟨o4, o5, o6, o7, o8, acc, rfl, sA, mF, pF, mD⟩
      rw [List.take_length] at pF mD ⊢
      have hcnt0 := hlt bs.length
      rw [List.take_length] at hcnt0
      walk_at "go"
      refine ⟨x_tyL mF, ?_⟩
      walk_at "go"
      refine lcX (S := IsBlk K) IsBlk.mono (fun H R h => ⟨_, rfl, h⟩) mD sA.i (by omega) (mkB (formSt bs).behind) (fun y Tp G4 H4 N0 N1 hy eg ei hT n1 => ?_) fun G4 H4 D s4 h4 => ?_
      · refine x_gtup2 hT ei fun wr wt hwr hwt => ?_
        cases hwt
        refine ⟨rfl, ?_⟩
        walk_at "go"
        refine x_ixT0 hwr ei fun wa hwa => ?_
        cases hwa
        walk_at "go"
        refine x_ixT1 hwr ei fun wb hwb => ?_
        cases hwb
        walk_at "go"
        have hmem : mkB (formSt bs).behind y ∈ formRaw bs := List.mem_append_right _ (List.mem_map_of_mem hy)
        exact mkBlk (b := mkB (formSt bs).behind y) rfl (List.all_eq_true.mp hok _ hmem) ei fun pb G6 H6 s6 hb6 => n1 _ _ _ s6 hb6
      · walk_at "go"
        have hl1 : acc.length + ((formSt bs).begun.map (mkB (formSt bs).behind)).length ≤ sizeLine := by
          rw [paired_len pF, List.length_map]; omega
        refine extL (s4.mu mF) h4 s4.i hl1 fun H5 ws s5 m5 p5 => ?_
        obtain ⟨s6, g6⟩ := freeze m5 s5.i
        walk_at "go"
        have hL : IsL (IsBlk K) (upd G4 pf (.lst (acc ++ ws))) (.ref pf) (formRaw bs) := ⟨pf, _, rfl, g6, paired_imp (fun a b q => IsBlk.mono _ _ a b s6.g q) (paired_app (paired_imp (fun a b q => IsBlk.mono _ _ a b s4.g q) pF) p5)⟩
        have s16 : St G0 H (upd G4 pf (.lst (acc ++ ws))) H5 := by
          refine Stm.fresh (Stm.refl e) (A := [pf, d]) (((St.up (s1.trans s2)).trans sA).trans ((St.up s4).trans ((s5.trans s6).sub (by simp)))) fun a ha => ?_
          rcases List.mem_cons.mp ha with rfl | ha
          · exact hpf
          · rw [List.mem_singleton.mp ha]
            cases hq : H d with
            | none => rfl
            | some o => exact absurd (s1.m d o (fun z => nomatch z) ⟨hq, m2.no⟩).1 (by rw [hd]; exact fun z => nomatch z)
        refine sortBlk hL hap s16.i fun G7 H7 p7 s7 h7 => ?_
        exact k _ _ _ (s16.trans s7) h7
end
end GT

/-! ## PH -/
set_option Elab.async false
set_option linter.all false
set_option maxRecDepth 100000
namespace GT
open PySem PySem.Spec PyProof.Rows L2 G
local macro_rules | `(tactic| walk_at "ex") => `(tactic| first | exact Ex.refl _ | assumption | exact Stm.g (by assumption) | (refine Ex.trans ?_ (Stm.g (by assumption)); walk_at "ex"))
local macro_rules | `(tactic| walk_at "st") => `(tactic| first | exact Stm.refl (by assumption) | assumption | (refine Stm.trans ?_ (by assumption); walk_at "st"))
local macro_rules | `(tactic| walk_at "i") => `(tactic| first | assumption | exact Stm.i (by assumption))
local macro_rules | `(tactic| walk_at "fact") => `(tactic| first | rfl | exact (rfl : V.non = optV none) | exact (rfl : V.int _ = optV (some _)) | assumption)
local macro_rules | `(tactic| walk_at "g") => `(tactic| first
  | with_reducible refine x_seq ?_
  | with_reducible refine x_next ?_
  | with_reducible refine x_asg ?_
  | with_reducible refine x_ret ?_
  | with_reducible refine x_retN ?_
  | with_reducible refine x_drop ?_
  | with_reducible refine x_ifs ?_
  | ((with_reducible refine' x_var ?hv ?_); (case hv => exact rfl))
  | with_reducible refine x_c ?_
  | with_reducible refine x_op ?_
  | with_reducible refine x_un ?_
  | with_reducible refine x_test ?_
  | with_reducible refine x_B ?_
  | with_reducible refine x_bl ?_
  | with_reducible refine x_and ?_
  | with_reducible refine x_or ?_
  | with_reducible refine x_not ?_
  | with_reducible refine x_andV ?_
  | with_reducible refine x_orV ?_
  | with_reducible refine x_notV ?_
  | with_reducible refine x_ife ?_
  | with_reducible refine x_isN ?_
  | with_reducible refine x_notN ?_
  | with_reducible refine x_nil ?_
  | with_reducible refine x_cons ?_
  | with_reducible refine x_cb ?_
  | with_reducible refine x_call ?_
  | ((with_reducible refine' x_callL ?hv ?_); (case hv => exact rfl))
  | with_reducible refine x_gname ?_
  | with_reducible refine x_I0 ?_
  | ((with_reducible refine' x_eq ?hv ?_); (case hv => exact rfl))
  | ((with_reducible refine' x_ne ?hv ?_); (case hv => exact rfl))
  | with_reducible refine x_tupG ?_
  | with_reducible refine x_lstG ?_
  | with_reducible refine x_lc ?_
  | (with_reducible refine x_U ?_)
  | ((with_reducible refine' ite_T ?hv ?_); (case hv => exact rfl))
  | ((with_reducible refine' ite_F ?hv ?_); (case hv => exact rfl))
  | with_reducible refine x_for ?_
  | with_reducible refine x_iEnum ?_
  | with_reducible refine x_iList ?_
  | with_reducible refine x_iTup ?_
  | with_reducible refine x_gcons ?_
  | with_reducible refine x_gnil ?_
  | with_reducible refine x_bm ?_
  | with_reducible refine x_fldG ?_
  | with_reducible refine x_meth ?_
  | with_reducible refine x_sl ?_
  | with_reducible refine x_nopart ?_
  | with_reducible refine x_part ?_
  | with_reducible refine x_int ?_
  | with_reducible refine x_yes ?_
  | with_reducible refine x_isNG ?_
  | with_reducible refine x_notNG ?_
  | fail "no step")
local macro_rules | `(tactic| walk_at "g2") => `(tactic| first
  | with_reducible refine x_sfld ?_
  | with_reducible refine x_make ?_
  | with_reducible refine x_dnew ?_
  | with_reducible refine x_lcT ?_
  | with_reducible refine x_lcS ?_
  | with_reducible refine x_disp ?_
  | with_reducible refine x_pcons ?_
  | with_reducible refine x_pnil ?_
  | with_reducible refine x_dnewK ?_
  | with_reducible refine x_dput ?_
  | with_reducible refine x_gsub ?_
  | with_reducible refine x_dget2 ?_
  | with_reducible refine x_litems ?_
  | with_reducible refine x_bmX ?_
  | with_reducible refine x_ckw ?_
  | with_reducible refine L2Z.x_methS ?_
  | with_reducible refine L2Z.x_methN ?_
  | with_reducible refine x_callSD ?_
  | with_reducible refine x_lcZ ?_
  | walk_at "g")
local macro_rules | `(tactic| walk_at "go") => `(tactic| repeat' walk_at "g2")

section
variable {P : Program} {w : World} {K : PySem.W.Frag} {mg : Str → Option Value} {base : Heap}
theorem IsBlk.ty {G H : Hp} {v : V} {b : Blk} (T : TX K mg) (h : IsBlk K G v b) (e : Ex G H) : TyX K H v (.ref (He.ga K "Block")) := by
  obtain ⟨p, dx, rfl, hp⟩ := h
  exact t_Block T (e _ _ hp)
theorem IsAr.ty {G H : Hp} {v : V} {b : List Blk} (T : TX K mg) (h : IsAr K G v b) (e : Ex G H) : TyX K H v (.ref (He.ga K "Area")) := by
  obtain ⟨p, dx, q, rfl, hp, _⟩ := h
  exact t_Area T (e _ _ hp)
def sp_checked_blocks (K : PySem.W.Frag) : Sp := fun vs H Q _ => ∃ G v xs, vs = [v] ∧ Ex G H ∧ IsL (IsBlk K) G v xs ∧ xs.length ≤ 1500 ∧ ∀ G1 H1, St G H G1 H1 → Q .non H1
theorem sc_checked_blocks : FnScope ["blocks", "block"] ["blocks"] (defScope s_checked_blocks) := ⟨rfl, rfl, rfl, by decide +kernel, rfl, by decide +kernel, by decide +kernel⟩
theorem ok_checked_blocks (T : TX K mg) : FnOk P w K mg base CX0 1 (f_checked_blocks K) (fdO K (f_checked_blocks K)) ["blocks"] (sp_checked_blocks K) := by
  refine (F_checked_blocks T).ok sc_checked_blocks (fun vs H Q E h => ?_) (fun cdv A outer s H vs Q E hr h => ?_)
  · obtain ⟨_, _, _, rfl, _⟩ := h; rfl
  · obtain ⟨G0, v, xs, rfl, e, hx, hz, k⟩ := h
    have hz' : xs.length < sizeLine := Nat.lt_of_le_of_lt hz (by decide)
    refine ⟨_, PSs.nox (pss_one (ps_if (PW.pt (pw_or (pt_not (pt_val (pe_callB (isiK (K := K) (by rfl)) (by rfl) (z_isinstance T) PyProof.Rows.boot_isinstance (pa_cons (pv 0) (pa_cons (pe_bltn (v := .ty "list") (by rfl) (z_list T) (by decide +kernel) rfl) pa_nil))))) (pw_or1 (pt_not (pt_val (pe_callB (cr_all rfl) (by rfl) (z_all T) PyProof.Rows.boot_all (pa_cons (pe_lc (own := [("block", 1)]) (g := gName 1) (by rfl) sc_checked_blocks.nd (pi_list (pv 0)) (blkOk_by (own := [("block", 1)]) (N := ["blocks", "block"]) (sc := defScope s_checked_blocks) (by decide +kernel)) (fun _ _ _ _ _ => (pg_name (i := 1) sc_checked_blocks.nd rfl (by first | exact Or.inl rfl | exact Or.inr rfl))) (fun _ _ _ _ _ => pts_nil) (fun _ _ _ _ _ => (pe_callB (isiK (K := K) (by rfl)) (by rfl) (z_isinstance T) PyProof.Rows.boot_isinstance (pa_cons (pv 1) (pa_cons (pe_glob (v := .ref (He.ga K "Block")) (by rfl) (g_Block T) rfl) pa_nil))))) pa_nil))))))) (pss_one ps_never) pss_nil)), ?_⟩
    walk_at "go"
    refine isiG (.ty "list") (hx.ty e) (kit_ty (b := "list") (r := true) (by decide +kernel)) ?_
    walk_at "go"
    refine lcG (R := IsBlk K) (S := IsB) IsBlk.mono IsB.mono (fun _ => true) (fun _ => true) e hx hz' (fun x w' G1 H1 N0 N1 _ s1 hw n0 n1 => ?_) fun G1 H1 D s1 hD => ?_
    · refine ⟨rfl, ?_⟩
      walk_at "go"
      refine isiG (.own _) (IsBlk.ty T hw s1.i) (i_Block_Block T) ?_
      exact n1 _ _ _ (Stm.refl s1.i) rfl rfl
    · walk_at "go"
      refine allL hD s1.i ?_
      have e1 : (((xs.filter fun _ => true).map fun _ => true).all id) = true := by simp
      rw [e1]
      refine ⟨_, rfl, ?_⟩
      walk_at "go"
      exact k _ _ s1
/-- a thing of another kind is refused -/
def spChk (K : PySem.W.Frag) (C X : Str) : Sp := fun vs H Q E => ∃ x t b, vs = [x] ∧ TyX K H x t ∧ PySem.W.kitOne K t (.ref (He.ga K C)) = some b ∧ (b = true → Q .non H) ∧ (b = false → E (.ref (He.ga K X)) none H)
theorem sc_checked_area : FnScope ["thing"] ["thing"] (defScope s_checked_area) := ⟨rfl, rfl, rfl, by decide +kernel, rfl, by decide +kernel, by decide +kernel⟩
theorem ok_checked_area (T : TX K mg) : FnOk P w K mg base (L2N.CX P w) 1 (f_checked_area K) (fdO K (f_checked_area K)) ["thing"] (spChk K "Area" "NoArea") := by
  refine (F_checked_area T).ok sc_checked_area (fun vs H Q E h => ?_) (fun cdv A outer s H vs Q E hr h => ?_)
  · obtain ⟨_, _, _, rfl, _⟩ := h; rfl
  · obtain ⟨x, t, b, rfl, ty, kb, h1, h2⟩ := h
    refine ⟨_, (pss_one (ps_if (pt_not (pt_val (pe_callB (isiK (K := K) (by rfl)) (by rfl) (z_isinstance T) PyProof.Rows.boot_isinstance (pa_cons (pv 0) (pa_cons (pe_glob (v := .ref (He.ga K "Area")) (by rfl) (g_Area T) rfl) pa_nil))))) (pss_one (L2N.ps_raise rfl (L2N.takes_of rfl rfl rfl rfl) (L2N.pmk_own PySem.F.excBase_ValueError (e_NoArea T).1 (g_NoArea T) (e_NoArea T).2.1 (raises_own (e_NoArea T).2.2.1 (e_NoArea T).2.2.2) (by rfl)))) pss_nil)), ?_⟩
    walk_at "go"
    refine isiG (.own _) ty kb ?_
    refine ⟨_, rfl, ?_⟩
    cases b with
    | true => exact h1 rfl
    | false => exact h2 rfl
theorem sc_check_sheet : FnScope ["thing"] ["thing"] (defScope s_check_sheet) := ⟨rfl, rfl, rfl, by decide +kernel, rfl, by decide +kernel, by decide +kernel⟩
theorem ok_check_sheet (T : TX K mg) : FnOk P w K mg base (L2N.CX P w) 1 (f_check_sheet K) (fdO K (f_check_sheet K)) ["thing"] (spChk K "Sheet" "NoSheet") := by
  refine (F_check_sheet T).ok sc_check_sheet (fun vs H Q E h => ?_) (fun cdv A outer s H vs Q E hr h => ?_)
  · obtain ⟨_, _, _, rfl, _⟩ := h; rfl
  · obtain ⟨x, t, b, rfl, ty, kb, h1, h2⟩ := h
    refine ⟨_, (pss_one (ps_if (pt_not (pt_val (pe_callB (isiK (K := K) (by rfl)) (by rfl) (z_isinstance T) PyProof.Rows.boot_isinstance (pa_cons (pv 0) (pa_cons (pe_glob (v := .ref (He.ga K "Sheet")) (by rfl) (g_Sheet T) rfl) pa_nil))))) (pss_one (L2N.ps_raise rfl (L2N.takes_of rfl rfl rfl rfl) (L2N.pmk_own PySem.F.excBase_ValueError (e_NoSheet T).1 (g_NoSheet T) (e_NoSheet T).2.1 (raises_own (e_NoSheet T).2.2.1 (e_NoSheet T).2.2.2) (by rfl)))) pss_nil)), ?_⟩
    walk_at "go"
    refine isiG (.own _) ty kb ?_
    refine ⟨_, rfl, ?_⟩
    cases b with
    | true => exact h1 rfl
    | false => exact h2 rfl
theorem okF_of {bs : List Band} (h : okF bs = true) : chained bs = true ∧ (formRaw bs).all okB = true ∧ apart (formRaw bs) = true ∧ (formRaw bs).length ≤ 1500 := by
  unfold okF at h
  rw [Bool.and_eq_true, Bool.and_eq_true, Bool.and_eq_true] at h
  exact ⟨h.1.1.1, h.1.1.2, h.1.2, of_decide_eq_true h.2⟩
def sp_Area_init (K : PySem.W.Frag) : Sp := fun vs H Q _ => ∃ G p dx v xs, vs = [.ref p, v] ∧ Ex G H ∧ Mu G H p (.ins (He.ga K "Area") dx []) ∧ ((v = .non ∧ xs = []) ∨ IsL (IsBlk K) G v xs) ∧ okN xs = true ∧
  ∀ G1 H1 q, Stm [p] G H G1 H1 → Mu G1 H1 p (.ins (He.ga K "Area") dx (arF q)) → IsL (IsBlk K) G1 (.ref q) (norm xs) → Q .non H1
theorem sc_Area___init__ : FnScope ["self", "blocks"] ["self", "blocks"] (defScope s_Area___init__) := ⟨rfl, rfl, rfl, by decide +kernel, rfl, by decide +kernel, by decide +kernel⟩
theorem ok_Area___init__ (T : TX K mg) : FnOk P w K mg base CX0 7 (f_Area___init__ K) (fdO K (f_Area___init__ K)) ["self", "blocks"] (sp_Area_init K) := by
  refine (F_Area___init__ T).ok sc_Area___init__ (fun vs H Q E h => ?_) (fun cdv A outer s H vs Q E hr h => ?_)
  · obtain ⟨_, _, _, _, _, rfl, _⟩ := h; rfl
  · obtain ⟨G0, p, dx, v, xs, rfl, e, mp, hv, ok, k⟩ := h
    unfold okN at ok
    rw [Bool.and_eq_true] at ok
    have hz := of_decide_eq_true ok.1
    obtain ⟨o1, o2, o3, o4⟩ := okF_of ok.2
    refine ⟨_, PSs.nox (pss_cons (ps_if (pt_cmpR op_isNG (pv 1) pe_non (nomark _)) (pss_one (ps_set (i := 1) sc_Area___init__.nd rfl (by first | exact Or.inl rfl | exact Or.inr rfl) (pe_lst pa_nil))) pss_nil)
      (pss_cons (ps_expr (pe_call (ok_checked_blocks T) (hr.mono (by decide)) (by rfl) (g_checked_blocks T) (F_checked_blocks T).kp (b_checked_blocks T) .nil pass0 (pa_cons (pv 1) pa_nil)))
      (pss_one (ps_fld (pv 0) (pe_call (ok_form_of T) (hr.mono (by decide)) (by rfl) (g_form_of T) (F_form_of T).kp (b_form_of T) .nil pass0 (pa_cons (pe_call (ok_bands_by T) (hr.mono (by decide)) (by rfl) (g_bands_by T) (F_bands_by T).kp (b_bands_by T) .nil pass0 (pa_cons (pv 1) (pa_cons (pe_lst pa_nil) (pa_cons (pe_glob (v := .ref (He.ga K "either")) (by rfl) (g_either T) rfl) pa_nil)))) pa_nil)) (by rfl))))), ?_⟩
    have tail : ∀ v2 G1 H1, Stm [p] G0 H G1 H1 → Mu G1 H1 p (.ins (He.ga K "Area") dx []) → IsL (IsBlk K) G1 v2 xs → tSeq (tDrop (tCall (sp_checked_blocks K) [] E0 (tCons (tVar 1) tNil))) (sFld K (tVar 0) (tCall (sp_form_of K) [] E0 (tCons (tCall (sp_bands_by K) [] E0 (tCons (tVar 1) (tCons (tLst tNil) (tCons (tC (V.ref (He.ga K (Str.ofString "either")))) tNil)))) tNil)) (Str.ofString "form")) { nx := fun x H' => Q V.non H', rt := Q } [some (.ref p), some v2] H1 := by
      intro v2 G1 H1 s1 m1 h1
      walk_at "go"
      refine ⟨G1, _, xs, rfl, s1.i, h1, hz, fun G2 H2 s2 => ?_⟩
      walk_at "go"
      have h2 := IsL.mono IsBlk.mono _ _ _ _ s2.g h1
      refine lstI s2.i (Nat.zero_le _) fun p0 G3 H3 s3 g3 => ?_
      walk_at "go"
      have h3 := IsL.mono IsBlk.mono _ _ _ _ s3.g h2
      refine ⟨G3, _, _, _, xs, [], _, rfl, .either, s3.i, h3, ⟨p0, [], rfl, g3, .nil⟩, hz, fun G4 H4 r4 s4 h4 => ?_⟩
      walk_at "go"
      refine ⟨G4, _, _, rfl, s4.i, h4, o1, o2, o3, o4, fun G5 H5 r5 s5 h5 => ?_⟩
      walk_at "go"
      have m5 := (((s2.trans s3).trans s4).trans s5).mu m1
      have h5' := h5
      obtain ⟨q, ws, rfl, _, _⟩ := h5'
      refine setF m5.1 (k_Area T) (n_Area_form T) (by decide) ?_
      obtain ⟨s6, m6⟩ := chgF (o' := .ins (He.ga K "Area") dx (arF q)) m5 s5.i
      exact k _ _ q ((s1.trans (St.up (((s2.trans s3).trans s4).trans s5))).trans s6) m6 h5
    walk_at "go"
    rcases hv with ⟨rfl, rfl⟩ | hv
    · walk_at "go"
      refine lstI e (Nat.zero_le _) fun p0 G1 H1 s1 g1 => ?_
      exact tail _ G1 H1 (St.up s1) (s1.mu mp) ⟨p0, [], rfl, g1, .nil⟩
    · have hv' := hv
      obtain ⟨q, ws, rfl, _, _⟩ := hv'
      exact tail _ G0 H (Stm.refl e) mp hv
theorem mkArea {G H : Hp} {dvs vs : List V} {Q : VK} {E : XK} {v : V} {xs : List Blk} (hv : vs ++ dvs = [v]) (hx : (v = .non ∧ xs = []) ∨ IsL (IsBlk K) G v xs) (ok : okN xs = true) (e : Ex G H) (h : ∀ p G1 H1, St G H G1 H1 → IsAr K G1 (.ref p) (norm xs) → Q (.ref p) H1) :
    MakeGo (He.ga K "Area") (sp_Area_init K) dvs vs H Q E := by
  refine makeG e fun x dx H1 hx1 hd hn s1 m1 => ⟨G, x, dx, v, xs, by rw [hv], s1.i, m1, hx, ok, fun G2 H2 q s2 m2 h2 => ⟨rfl, ?_⟩⟩
  obtain ⟨s3, g3⟩ := freeze m2 s2.i
  refine h x _ _ (Stm.fresh s1 (s2.trans s3) fun a ha => by rw [List.mem_singleton.mp ha]; exact hx1) ⟨x, dx, q, rfl, g3, IsL.mono IsBlk.mono _ _ _ _ s3.g h2⟩
end
end GT

/-! ## PI -/
set_option Elab.async false
set_option linter.all false
set_option maxRecDepth 100000
namespace GT
open PySem PySem.Spec PyProof.Rows L2 G
local macro_rules | `(tactic| walk_at "ex") => `(tactic| first | exact Ex.refl _ | assumption | exact Stm.g (by assumption) | (refine Ex.trans ?_ (Stm.g (by assumption)); walk_at "ex"))
local macro_rules | `(tactic| walk_at "st") => `(tactic| first | exact Stm.refl (by assumption) | assumption | (refine Stm.trans ?_ (by assumption); walk_at "st"))
local macro_rules | `(tactic| walk_at "i") => `(tactic| first | assumption | exact Stm.i (by assumption))
local macro_rules | `(tactic| walk_at "fact") => `(tactic| first | rfl | exact (rfl : V.non = optV none) | exact (rfl : V.int _ = optV (some _)) | assumption)
local macro_rules | `(tactic| walk_at "g") => `(tactic| first
  | with_reducible refine x_seq ?_
  | with_reducible refine x_next ?_
  | with_reducible refine x_asg ?_
  | with_reducible refine x_ret ?_
  | with_reducible refine x_retN ?_
  | with_reducible refine x_drop ?_
  | with_reducible refine x_ifs ?_
  | ((with_reducible refine' x_var ?hv ?_); (case hv => exact rfl))
  | with_reducible refine x_c ?_
  | with_reducible refine x_op ?_
  | with_reducible refine x_un ?_
  | with_reducible refine x_test ?_
  | with_reducible refine x_B ?_
  | with_reducible refine x_bl ?_
  | with_reducible refine x_and ?_
  | with_reducible refine x_or ?_
  | with_reducible refine x_not ?_
  | with_reducible refine x_andV ?_
  | with_reducible refine x_orV ?_
  | with_reducible refine x_notV ?_
  | with_reducible refine x_ife ?_
  | with_reducible refine x_isN ?_
  | with_reducible refine x_notN ?_
  | with_reducible refine x_nil ?_
  | with_reducible refine x_cons ?_
  | with_reducible refine x_cb ?_
  | with_reducible refine x_call ?_
  | ((with_reducible refine' x_callL ?hv ?_); (case hv => exact rfl))
  | with_reducible refine x_gname ?_
  | with_reducible refine x_I0 ?_
  | ((with_reducible refine' x_eq ?hv ?_); (case hv => exact rfl))
  | ((with_reducible refine' x_ne ?hv ?_); (case hv => exact rfl))
  | with_reducible refine x_tupG ?_
  | with_reducible refine x_lstG ?_
  | with_reducible refine x_lc ?_
  | (with_reducible refine x_U ?_)
  | ((with_reducible refine' ite_T ?hv ?_); (case hv => exact rfl))
  | ((with_reducible refine' ite_F ?hv ?_); (case hv => exact rfl))
  | with_reducible refine x_for ?_
  | with_reducible refine x_iEnum ?_
  | with_reducible refine x_iList ?_
  | with_reducible refine x_iTup ?_
  | with_reducible refine x_gcons ?_
  | with_reducible refine x_gnil ?_
  | with_reducible refine x_bm ?_
  | with_reducible refine x_fldG ?_
  | with_reducible refine x_meth ?_
  | with_reducible refine x_sl ?_
  | with_reducible refine x_nopart ?_
  | with_reducible refine x_part ?_
  | with_reducible refine x_int ?_
  | with_reducible refine x_yes ?_
  | with_reducible refine x_isNG ?_
  | with_reducible refine x_notNG ?_
  | fail "no step")
local macro_rules | `(tactic| walk_at "g2") => `(tactic| first
  | with_reducible refine x_sfld ?_
  | with_reducible refine x_make ?_
  | with_reducible refine x_dnew ?_
  | with_reducible refine x_lcT ?_
  | with_reducible refine x_lcS ?_
  | with_reducible refine x_disp ?_
  | with_reducible refine x_pcons ?_
  | with_reducible refine x_pnil ?_
  | with_reducible refine x_dnewK ?_
  | with_reducible refine x_dput ?_
  | with_reducible refine x_gsub ?_
  | with_reducible refine x_dget2 ?_
  | with_reducible refine x_litems ?_
  | with_reducible refine x_bmX ?_
  | with_reducible refine x_ckw ?_
  | with_reducible refine L2Z.x_methS ?_
  | with_reducible refine L2Z.x_methN ?_
  | with_reducible refine x_callSD ?_
  | with_reducible refine x_lcZ ?_
  | walk_at "g")
local macro_rules | `(tactic| walk_at "go") => `(tactic| repeat' walk_at "g2")

section
variable {P : Program} {w : World} {K : PySem.W.Frag} {mg : Str → Option Value} {base : Heap}
/-- what isinstance tells of x, as long as the facts stand -/
def Od (K : PySem.W.Frag) (G : Hp) (x : V) (t : Value) : Prop := ∀ H, Ex G H → TyX K H x t
def Kd (K : PySem.W.Frag) (G : Hp) (x : V) : Prop := ∀ H, Ex G H → Knd K H x
theorem Od.mono {G G' : Hp} {x : V} {t : Value} (h : Od K G x t) (e : Ex G G') : Od K G' x t := fun H e' => h H (e.trans e')
theorem Kd.mono {G G' : Hp} {x : V} (h : Kd K G x) (e : Ex G G') : Kd K G' x := fun H e' => h H (e.trans e')
theorem Kd.int {G : Hp} {i : Int} : Kd K G (.int i) := fun _ _ => Knd.int
/-- a thing that may be a cell: b tells whether it is one -/
def CellT (K : PySem.W.Frag) (G : Hp) (x : V) (b : Bool) : Prop := (b = false ∧ ∃ t, Od K G x t ∧ PySem.W.kitOne K t (.type "tuple") = some false) ∨
  (∃ p xs, x = .ref p ∧ G p = some (.tup xs) ∧ (∀ y ∈ xs, Kd K G y) ∧ xs.length ≤ 100 ∧ b = (decide (xs.length = 2) && xs.all countV))
def sp_is_cell (K : PySem.W.Frag) : Sp := fun vs H Q _ => ∃ G x b, vs = [x] ∧ Ex G H ∧ CellT K G x b ∧ ∀ G1 H1, St G H G1 H1 → Q (.bl b) H1
theorem sc_is_cell : FnScope ["thing", "part"] ["thing"] (defScope s_is_cell) := ⟨rfl, rfl, rfl, by decide +kernel, rfl, by decide +kernel, by decide +kernel⟩
theorem ok_is_cell (T : TX K mg) : FnOk P w K mg base CX0 3 (f_is_cell K) (fdO K (f_is_cell K)) ["thing"] (sp_is_cell K) := by
  refine (F_is_cell T).ok sc_is_cell (fun vs H Q E h => ?_) (fun cdv A outer s H vs Q E hr h => ?_)
  · obtain ⟨_, _, _, rfl, _⟩ := h; rfl
  · obtain ⟨G0, x, b, rfl, e, hc, k⟩ := h
    refine ⟨_, PSs.nox (pss_one (ps_ret (pe_and (pe_callB (isiK (K := K) (by rfl)) (by rfl) (z_isinstance T) PyProof.Rows.boot_isinstance (pa_cons (pv 0) (pa_cons (pe_bltn (v := .ty "tuple") (by rfl) (z_tuple T) (by decide +kernel) rfl) pa_nil))) (pe_and (pe_cmpR op_eq (pe_callB (lenK (K := K) (by rfl)) (by rfl) (z_len T) PySem.boot_len (pa_cons (pv 0) pa_nil)) pe_int (nomark _)) (pe_one (pe_callB (cr_all rfl) (by rfl) (z_all T) PyProof.Rows.boot_all (pa_cons (pe_lc (own := [("part", 1)]) (g := gName 1) (by rfl) sc_is_cell.nd (pi_tup (pv 0)) (blkOk_by (own := [("part", 1)]) (N := ["thing", "part"]) (sc := defScope s_is_cell) (by decide +kernel)) (fun _ _ _ _ _ => (pg_name (i := 1) sc_is_cell.nd rfl (by first | exact Or.inl rfl | exact Or.inr rfl))) (fun _ _ _ _ _ => pts_nil) (fun _ _ _ _ _ => (pe_call (ok_is_count T) (hr.mono (by decide)) (by rfl) (g_is_count T) (F_is_count T).kp (b_is_count T) .nil pass0 (pa_cons (pv 1) pa_nil)))) pa_nil))))))), ?_⟩
    walk_at "go"
    rcases hc with ⟨rfl, t, ty, kt⟩ | ⟨p, xs, rfl, hp, hk, hz, rfl⟩
    · refine isiG (.ty "tuple") (ty H e) kt ?_
      walk_at "go"
      exact k _ _ (Stm.refl e)
    · refine isiG (.ty "tuple") (tyT (e _ _ hp)) (kit_ty (b := "tuple") (r := true) (by decide +kernel)) ?_
      walk_at "go"
      refine lenT (e _ _ hp) ?_
      walk_at "go"
      have e2 : decide (V.int (xs.length : Nat) = V.int 2) = decide (xs.length = 2) := by
        by_cases c : xs.length = 2
        · rw [c]; rfl
        · rw [decide_eq_false c, decide_eq_false]
          intro q
          have := V.int.inj q
          omega
      rw [e2]
      have hz' : xs.length < sizeLine := Nat.lt_of_le_of_lt hz (by decide)
      refine ite_b2 (fun h1 => ?_) (fun h1 => ?_)
      · walk_at "go"
        refine lcT (S := IsB) IsB.mono (fun _ => true) countV e hp hz' (fun x G1 H1 N0 N1 hm s1 n0 n1 => ?_) fun G1 H1 D s1 hD => ?_
        · refine ⟨rfl, ?_⟩
          walk_at "go"
          refine ⟨x, rfl, hk x hm H1 (s1.g.trans s1.i), ?_⟩
          exact n1 _ _ _ (Stm.refl s1.i) rfl rfl
        · walk_at "go"
          refine allL hD s1.i ?_
          have e1 : (((xs.filter fun _ => true).map countV).all id) = xs.all countV := by simp [List.all_map]
          rw [e1]
          rw [h1, Bool.true_and] at k
          exact k _ _ s1
      · rw [h1, Bool.false_and] at k
        exact k _ _ (Stm.refl e)
def sp_checked_cell (K : PySem.W.Frag) : Sp := fun vs H Q E => ∃ G x b, vs = [x] ∧ Ex G H ∧ CellT K G x b ∧ (b = true → ∀ G1 H1, St G H G1 H1 → Q .non H1) ∧ (b = false → ∀ G1 H1, St G H G1 H1 → E (.ref (He.ga K "NoCell")) none H1)
theorem sc_checked_cell : FnScope ["thing"] ["thing"] (defScope s_checked_cell) := ⟨rfl, rfl, rfl, by decide +kernel, rfl, by decide +kernel, by decide +kernel⟩
theorem ok_checked_cell (T : TX K mg) : FnOk P w K mg base (L2N.CX P w) 4 (f_checked_cell K) (fdO K (f_checked_cell K)) ["thing"] (sp_checked_cell K) := by
  refine (F_checked_cell T).ok sc_checked_cell (fun vs H Q E h => ?_) (fun cdv A outer s H vs Q E hr h => ?_)
  · obtain ⟨_, _, _, rfl, _⟩ := h; rfl
  · obtain ⟨G0, x, b, rfl, e, hc, k1, k2⟩ := h
    refine ⟨_, (pss_one (ps_if (pt_not (pt_val (pe_call (ok_is_cell T) (hr.mono (by decide)) (by rfl) (g_is_cell T) (F_is_cell T).kp (b_is_cell T) .nil pass0 (pa_cons (pv 0) pa_nil)))) (pss_one (L2N.ps_raise rfl (L2N.takes_of rfl rfl rfl rfl) (L2N.pmk_own PySem.F.excBase_ValueError (e_NoCell T).1 (g_NoCell T) (e_NoCell T).2.1 (raises_own (e_NoCell T).2.2.1 (e_NoCell T).2.2.2) (by rfl)))) pss_nil)), ?_⟩
    walk_at "go"
    refine ⟨G0, x, b, rfl, e, hc, fun G1 H1 s1 => ?_⟩
    refine ⟨_, rfl, ?_⟩
    cases b with
    | true => exact k1 rfl _ _ s1
    | false => exact k2 rfl _ _ s1
def endLe (n : Int) : Option Int → Bool
  | none => true
  | some l => decide (n ≤ l)
theorem isAt_eq (a : Int) (l : Option Int) (n : Int) : isAt a l n = (decide (a ≤ n) && endLe n l) := by cases l <;> rfl
theorem cell_ok {G : Hp} {c : Addr} {r k : Int} (hc : G c = some (.tup [.int r, .int k])) (h1 : 1 ≤ r) (h2 : 1 ≤ k) : CellT K G (.ref c) true :=
  .inr ⟨c, _, rfl, hc, fun y hy => by
    rcases List.mem_cons.mp hy with rfl | hy
    · exact Kd.int
    · rw [List.mem_singleton.mp hy]; exact Kd.int, by show 2 ≤ 100; decide, by
    show true = (true && (decide (1 ≤ r) && (decide (1 ≤ k) && true)))
    rw [decide_eq_true h1, decide_eq_true h2]; rfl⟩
def sp_Block_has (K : PySem.W.Frag) : Sp := fun vs H Q _ => ∃ G v b c r k, vs = [v, .ref c] ∧ Ex G H ∧ IsBlk K G v b ∧ G c = some (.tup [.int r, .int k]) ∧ 1 ≤ r ∧ 1 ≤ k ∧ ∀ G1 H1, St G H G1 H1 → Q (.bl (hasB b r k)) H1
theorem sc_Block_has : FnScope ["self", "cell", "row", "column"] ["self", "cell"] (defScope s_Block_has) := ⟨rfl, rfl, rfl, by decide +kernel, rfl, by decide +kernel, by decide +kernel⟩
theorem ok_Block_has (T : TX K mg) : FnOk P w K mg base CX0 5 (f_Block_has K) (fdO K (f_Block_has K)) ["self", "cell"] (sp_Block_has K) := by
  refine (F_Block_has T).ok sc_Block_has (fun vs H Q E h => ?_) (fun cdv A outer s H vs Q E hr h => ?_)
  · obtain ⟨_, _, _, _, _, _, rfl, _⟩ := h; rfl
  · obtain ⟨G0, v, b, c, r, k, rfl, e, hb, hc, h1, h2, q⟩ := h
    refine ⟨_, PSs.nox (pss_cons (ps_expr (pe_call (ok_checked_cell T) (hr.mono (by decide)) (by rfl) (g_checked_cell T) (F_checked_cell T).kp (b_checked_cell T) .nil passN (pa_cons (pv 1) pa_nil)))
      (pss_cons (ps_asg (pv 1) (pg_tup (by rfl) (pgs_cons (pg_name (i := 2) sc_Block_has.nd rfl (by first | exact Or.inl rfl | exact Or.inr rfl)) (pgs_cons (pg_name (i := 3) sc_Block_has.nd rfl (by first | exact Or.inl rfl | exact Or.inr rfl)) pgs_nil))))
      (pss_cons (ps_if (PW.pt (pw_or (pt_cmpR op_lt (pv 2) (fldK (K := K) (pv 0) (by rfl) (by rfl)) (nomark _)) (pw_or1 (pt_cmpR op_lt (pv 3) (fldK (K := K) (pv 0) (by rfl) (by rfl)) (nomark _))))) (pss_one (ps_ret pe_bl)) pss_nil)
      (pss_one (ps_ret (pe_and (pe_or (pe_cmpR op_isNG (fldK (K := K) (pv 0) (by rfl) (by rfl)) pe_non (nomark _)) (pe_one (pe_cmpR op_le (pv 2) (fldK (K := K) (pv 0) (by rfl) (by rfl)) (nomark _)))) (pe_one (pe_or (pe_cmpR op_isNG (fldK (K := K) (pv 0) (by rfl) (by rfl)) pe_non (nomark _)) (pe_one (pe_cmpR op_le (pv 3) (fldK (K := K) (pv 0) (by rfl) (by rfl)) (nomark _))))))))))), ?_⟩
    walk_at "go"
    refine ⟨G0, _, true, rfl, e, cell_ok hc h1 h2, fun _ G1 H1 s1 => ?_, fun z => nomatch z⟩
    walk_at "go"
    refine x_gtup (s1.i _ _ (s1.g _ _ hc)) rfl ?_
    walk_at "go"
    have hb1 := IsBlk.mono _ _ _ _ s1.g hb
    refine fB_top T hb1 s1.i ?_
    walk_at "go"
    refine ite_b2 (fun c1 => ?_) (fun c1 => ?_)
    · walk_at "go"
      have hf : hasB b r k = false := by
        have := of_decide_eq_true c1
        unfold hasB isAt
        rw [decide_eq_false (show ¬ b.t ≤ r by omega)]; rfl
      rw [hf] at q
      exact q _ _ s1
    · walk_at "go"
      refine fB_left T hb1 s1.i ?_
      walk_at "go"
      refine ite_b2 (fun c2 => ?_) (fun c2 => ?_)
      · walk_at "go"
        have hf : hasB b r k = false := by
          have := of_decide_eq_true c2
          unfold hasB isAt
          rw [decide_eq_false (show ¬ b.l ≤ k by omega)]
          simp
        rw [hf] at q
        exact q _ _ s1
      · have c1' := of_decide_eq_false c1
        have c2' := of_decide_eq_false c2
        have t1 : decide (b.t ≤ r) = true := decide_eq_true (by omega)
        have t2 : decide (b.l ≤ k) = true := decide_eq_true (by omega)
        walk_at "go"
        refine fB_bottom T hb1 s1.i ?_
        walk_at "go"
        have fin : ∀ (k1 : Bool), k1 = endLe r b.b → ∃ k2, V.bl k1 = .bl k2 ∧ if k2 = true then tOrV (tOp G.rIsN (tFld K (tVar 0) (Str.ofString "right")) (tC V.non)) (tOp (rI0 fun i j => V.bl (decide (i ≤ j))) (tVar 3) (tFld K (tVar 0) (Str.ofString "right"))) [some v, some (.ref c), some (.int r), some (.int k)] H1 Q else Q (.bl false) H1 := by
          intro k1 e1
          refine ⟨k1, rfl, ite_b2 (fun c3 => ?_) (fun c3 => ?_)⟩
          · walk_at "go"
            refine fB_right T hb1 s1.i ?_
            walk_at "go"
            have q1 := q _ _ s1
            unfold hasB at q1
            rw [isAt_eq, isAt_eq, t1, t2, ← e1, c3] at q1
            cases hr : b.r with
            | none =>
              rw [hr] at q1
              exact q1
            | some z =>
              rw [hr] at q1
              walk_at "go"
              refine fB_right T hb1 s1.i ?_
              rw [hr]
              walk_at "go"
              exact q1
          · have q1 := q _ _ s1
            unfold hasB at q1
            rw [isAt_eq, isAt_eq, t1, t2, ← e1, c3] at q1
            exact q1
        cases hb2 : b.b with
        | none => exact fin true (by rw [hb2]; rfl)
        | some z =>
          walk_at "go"
          refine fB_bottom T hb1 s1.i ?_
          rw [hb2]
          walk_at "go"
          obtain ⟨_, ek, hk⟩ := fin _ rfl
          rw [hb2] at ek
          cases ek
          exact hk
end
end GT

/-! ## PJ -/
set_option Elab.async false
set_option linter.all false
set_option maxRecDepth 100000
namespace GT
open PySem PySem.Spec PyProof.Rows L2 G
local macro_rules | `(tactic| walk_at "ex") => `(tactic| first | exact Ex.refl _ | assumption | exact Stm.g (by assumption) | (refine Ex.trans ?_ (Stm.g (by assumption)); walk_at "ex"))
local macro_rules | `(tactic| walk_at "st") => `(tactic| first | exact Stm.refl (by assumption) | assumption | (refine Stm.trans ?_ (by assumption); walk_at "st"))
local macro_rules | `(tactic| walk_at "i") => `(tactic| first | assumption | exact Stm.i (by assumption))
local macro_rules | `(tactic| walk_at "fact") => `(tactic| first | rfl | exact (rfl : V.non = optV none) | exact (rfl : V.int _ = optV (some _)) | assumption)
local macro_rules | `(tactic| walk_at "g") => `(tactic| first
  | with_reducible refine x_seq ?_
  | with_reducible refine x_next ?_
  | with_reducible refine x_asg ?_
  | with_reducible refine x_ret ?_
  | with_reducible refine x_retN ?_
  | with_reducible refine x_drop ?_
  | with_reducible refine x_ifs ?_
  | ((with_reducible refine' x_var ?hv ?_); (case hv => exact rfl))
  | with_reducible refine x_c ?_
  | with_reducible refine x_op ?_
  | with_reducible refine x_un ?_
  | with_reducible refine x_test ?_
  | with_reducible refine x_B ?_
  | with_reducible refine x_bl ?_
  | with_reducible refine x_and ?_
  | with_reducible refine x_or ?_
  | with_reducible refine x_not ?_
  | with_reducible refine x_andV ?_
  | with_reducible refine x_orV ?_
  | with_reducible refine x_notV ?_
  | with_reducible refine x_ife ?_
  | with_reducible refine x_isN ?_
  | with_reducible refine x_notN ?_
  | with_reducible refine x_nil ?_
  | with_reducible refine x_cons ?_
  | with_reducible refine x_cb ?_
  | with_reducible refine x_call ?_
  | ((with_reducible refine' x_callL ?hv ?_); (case hv => exact rfl))
  | with_reducible refine x_gname ?_
  | with_reducible refine x_I0 ?_
  | ((with_reducible refine' x_eq ?hv ?_); (case hv => exact rfl))
  | ((with_reducible refine' x_ne ?hv ?_); (case hv => exact rfl))
  | with_reducible refine x_tupG ?_
  | with_reducible refine x_lstG ?_
  | with_reducible refine x_lc ?_
  | (with_reducible refine x_U ?_)
  | ((with_reducible refine' ite_T ?hv ?_); (case hv => exact rfl))
  | ((with_reducible refine' ite_F ?hv ?_); (case hv => exact rfl))
  | with_reducible refine x_for ?_
  | with_reducible refine x_iEnum ?_
  | with_reducible refine x_iList ?_
  | with_reducible refine x_iTup ?_
  | with_reducible refine x_gcons ?_
  | with_reducible refine x_gnil ?_
  | with_reducible refine x_bm ?_
  | with_reducible refine x_fldG ?_
  | with_reducible refine x_meth ?_
  | with_reducible refine x_sl ?_
  | with_reducible refine x_nopart ?_
  | with_reducible refine x_part ?_
  | with_reducible refine x_int ?_
  | with_reducible refine x_yes ?_
  | with_reducible refine x_isNG ?_
  | with_reducible refine x_notNG ?_
  | fail "no step")
local macro_rules | `(tactic| walk_at "g2") => `(tactic| first
  | with_reducible refine x_sfld ?_
  | with_reducible refine x_make ?_
  | with_reducible refine x_dnew ?_
  | with_reducible refine x_lcT ?_
  | with_reducible refine x_lcS ?_
  | with_reducible refine x_disp ?_
  | with_reducible refine x_pcons ?_
  | with_reducible refine x_pnil ?_
  | with_reducible refine x_dnewK ?_
  | with_reducible refine x_dput ?_
  | with_reducible refine x_gsub ?_
  | with_reducible refine x_dget2 ?_
  | with_reducible refine x_litems ?_
  | with_reducible refine x_bmX ?_
  | with_reducible refine x_ckw ?_
  | with_reducible refine L2Z.x_methS ?_
  | with_reducible refine L2Z.x_methN ?_
  | with_reducible refine x_callSD ?_
  | with_reducible refine x_lcZ ?_
  | walk_at "g")
local macro_rules | `(tactic| walk_at "go") => `(tactic| repeat' walk_at "g2")

section
variable {P : Program} {w : World} {K : PySem.W.Frag} {mg : Str → Option Value} {base : Heap}
/-! ### an area's form -/
theorem fA_form {G H : Hp} {v : V} {xs : List Blk} {Q : VK} (T : TX K mg) (ha : IsAr K G v xs) (e : Ex G H) (h : ∀ q, IsL (IsBlk K) G (.ref q) xs → Q (.ref q) H) : FldGo K "form" v H Q := by
  obtain ⟨p, dx, q, rfl, hp, hq⟩ := ha
  exact fldG (e _ _ hp) (k_Area T) (n_Area_form T) (arF_form q) (h q hq)
theorem mA {G H : Hp} {v : V} {xs : List Blk} {m : Str} {sp : Sp} {dvs : List V} {E : XK} {t : TA} {σ : L2.St} {Q : VK} (ha : IsAr K G v xs) (e : Ex G H) (hm : ¬ m = "form") (h : t σ H fun vs H2 => sp (v :: (vs ++ dvs)) H2 Q E) : MethGo (He.ga K "Area") m sp dvs E t σ v H Q := by
  obtain ⟨p, dx, q, rfl, hp, hq⟩ := ha
  exact methG (e _ _ hp) (arF_no q hm) h
theorem mB {G H : Hp} {v : V} {b : Blk} {m : Str} {sp : Sp} {dvs : List V} {E : XK} {t : TA} {σ : L2.St} {Q : VK} (ha : IsBlk K G v b) (e : Ex G H) (h1 : ¬ m = "right") (h2 : ¬ m = "bottom") (h3 : ¬ m = "left") (h4 : ¬ m = "top") (h : t σ H fun vs H2 => sp (v :: (vs ++ dvs)) H2 Q E) : MethGo (He.ga K "Block") m sp dvs E t σ v H Q := by
  obtain ⟨p, dx, rfl, hp⟩ := ha
  exact methG (e _ _ hp) (blkF_no b h1 h2 h3 h4) h
def sp_Area_len (K : PySem.W.Frag) : Sp := fun vs H Q _ => ∃ G v xs, vs = [v] ∧ Ex G H ∧ IsAr K G v xs ∧ Q (.int (xs.length : Nat)) H
theorem sc_Area___len__ : FnScope ["self"] ["self"] (defScope s_Area___len__) := ⟨rfl, rfl, rfl, by decide +kernel, rfl, by decide +kernel, by decide +kernel⟩
theorem ok_Area___len__ (T : TX K mg) : FnOk P w K mg base CX0 1 (f_Area___len__ K) (fdO K (f_Area___len__ K)) ["self"] (sp_Area_len K) := by
  refine (F_Area___len__ T).ok sc_Area___len__ (fun vs H Q E h => ?_) (fun cdv A outer s H vs Q E hr h => ?_)
  · obtain ⟨_, _, _, rfl, _⟩ := h; rfl
  · obtain ⟨G0, v, xs, rfl, e, ha, q⟩ := h
    refine ⟨_, PSs.nox (pss_one (ps_ret (pe_callB (lenK (K := K) (by rfl)) (by rfl) (z_len T) PySem.boot_len (pa_cons (fldK (K := K) (pv 0) (by rfl) (by rfl)) pa_nil)))), ?_⟩
    walk_at "go"
    refine fA_form T ha e fun a hq => ?_
    walk_at "go"
    exact lenL hq e q
def sp_Area_blocks (K : PySem.W.Frag) : Sp := fun vs H Q _ => ∃ G a dx q ws, vs = [.ref a] ∧ Ex G H ∧ G a = some (.ins (He.ga K "Area") dx (arF q)) ∧ G q = some (.lst ws) ∧ ∀ G1 H1 r, St G H G1 H1 → G1 r = some (.lst ws) → Q (.ref r) H1
theorem sc_Area_blocks : FnScope ["self"] ["self"] (defScope s_Area_blocks) := ⟨rfl, rfl, rfl, by decide +kernel, rfl, by decide +kernel, by decide +kernel⟩
theorem ok_Area_blocks (T : TX K mg) : FnOk P w K mg base CX0 1 (f_Area_blocks K) (fdO K (f_Area_blocks K)) ["self"] (sp_Area_blocks K) := by
  refine (F_Area_blocks T).ok sc_Area_blocks (fun vs H Q E h => ?_) (fun cdv A outer s H vs Q E hr h => ?_)
  · obtain ⟨_, _, _, _, _, rfl, _⟩ := h; rfl
  · obtain ⟨G0, a, dx, q, ws, rfl, e, ha, hq, k⟩ := h
    refine ⟨_, PSs.nox (pss_one (ps_ret (pe_callTy (listK (K := K) (by rfl)) (by rfl) (z_list T) (by decide +kernel) (pa_cons (fldK (K := K) (pv 0) (by rfl) (by rfl)) pa_nil)))), ?_⟩
    walk_at "go"
    refine fldG (e _ _ ha) (k_Area T) (n_Area_form T) (arF_form q) ?_
    walk_at "go"
    refine ⟨q, ws, rfl, .inl (sq (e _ _ hq)), fun r hr => ?_⟩
    obtain ⟨s1, g1⟩ := alF (o := .lst ws) hr e
    exact k _ _ r s1 g1
def sp_Area_has (K : PySem.W.Frag) : Sp := fun vs H Q _ => ∃ G v xs c r k, vs = [v, .ref c] ∧ Ex G H ∧ IsAr K G v xs ∧ xs.length ≤ 1500 ∧ G c = some (.tup [.int r, .int k]) ∧ 1 ≤ r ∧ 1 ≤ k ∧ ∀ G1 H1, St G H G1 H1 → Q (.bl (xs.any fun b => hasB b r k)) H1
theorem sc_Area_has : FnScope ["self", "cell", "block"] ["self", "cell"] (defScope s_Area_has) := ⟨rfl, rfl, rfl, by decide +kernel, rfl, by decide +kernel, by decide +kernel⟩
theorem ok_Area_has (T : TX K mg) : FnOk P w K mg base CX0 6 (f_Area_has K) (fdO K (f_Area_has K)) ["self", "cell"] (sp_Area_has K) := by
  refine (F_Area_has T).ok sc_Area_has (fun vs H Q E h => ?_) (fun cdv A outer s H vs Q E hr h => ?_)
  · obtain ⟨_, _, _, _, _, _, rfl, _⟩ := h; rfl
  · obtain ⟨G0, v, xs, c, r, k, rfl, e, ha, hz, hc, h1, h2, q⟩ := h
    have hz' : xs.length < sizeLine := Nat.lt_of_le_of_lt hz (by decide)
    refine ⟨_, PSs.nox (pss_cons (ps_expr (pe_call (ok_checked_cell T) (hr.mono (by decide)) (by rfl) (g_checked_cell T) (F_checked_cell T).kp (b_checked_cell T) .nil passN (pa_cons (pv 1) pa_nil)))
      (pss_one (ps_ret (pe_callB (cr_any rfl) (by rfl) (z_any T) PyProof.Rows.boot_any (pa_cons (pe_lc (own := [("block", 2)]) (g := gName 2) (by rfl) sc_Area_has.nd (pi_list (fldK (K := K) (pv 0) (by rfl) (by rfl))) (blkOk_by (own := [("block", 2)]) (N := ["self", "cell", "block"]) (sc := defScope s_Area_has) (by decide +kernel)) (fun _ _ _ _ _ => (pg_name (i := 2) sc_Area_has.nd rfl (by first | exact Or.inl rfl | exact Or.inr rfl))) (fun _ _ _ _ _ => pts_nil) (fun _ _ _ _ _ => (pe_meth (pv 2) (k_Block T) (m_Block_has T) (ok_Block_has T) (hr.mono (by decide)) (b_Block_has T) .nil pass0 (pa_cons (pv 1) pa_nil)))) pa_nil))))), ?_⟩
    walk_at "go"
    refine ⟨G0, _, true, rfl, e, cell_ok hc h1 h2, fun _ G1 H1 s1 => ?_, fun z => nomatch z⟩
    walk_at "go"
    refine fA_form T (IsAr.mono _ _ _ _ s1.g ha) s1.i fun a hq => ?_
    walk_at "go"
    refine lcG (R := IsBlk K) (S := IsB) IsBlk.mono IsB.mono (fun _ => true) (fun b => hasB b r k) s1.i hq hz' (fun x w' G2 H2 N0 N1 _ s2 hw n0 n1 => ?_) fun G2 H2 D s2 hD => ?_
    · refine ⟨rfl, ?_⟩
      walk_at "go"
      refine mB hw s2.i (by decide +kernel) (by decide +kernel) (by decide +kernel) (by decide +kernel) ?_
      walk_at "go"
      exact ⟨G2, _, x, c, r, k, rfl, s2.i, hw, s2.g _ _ (s1.g _ _ hc), h1, h2, fun G3 H3 s3 => n1 _ _ _ s3 rfl rfl⟩
    · walk_at "go"
      refine anyL hD s2.i ?_
      rw [any_all]
      exact q _ _ (s1.trans s2)
def sp_Area_by (K : PySem.W.Frag) : Sp := fun vs H Q _ => ∃ G v u f xs ys g, vs = [v, u, .ref f] ∧ Ex G H ∧ Kp K f g ∧ IsAr K G v xs ∧ IsAr K G u ys ∧ okBy xs ys g = true ∧ ∀ G1 H1 r, St G H G1 H1 → IsAr K G1 r (byA xs ys g) → Q r H1
theorem sc_Area_by : FnScope ["self", "other", "keeps"] ["self", "other", "keeps"] (defScope s_Area_by) := ⟨rfl, rfl, rfl, by decide +kernel, rfl, by decide +kernel, by decide +kernel⟩
theorem ok_Area_by (T : TX K mg) : FnOk P w K mg base CX0 9 (f_Area_by K) (fdO K (f_Area_by K)) ["self", "other", "keeps"] (sp_Area_by K) := by
  refine (F_Area_by T).ok sc_Area_by (fun vs H Q E h => ?_) (fun cdv A outer s H vs Q E hr h => ?_)
  · obtain ⟨_, _, _, _, _, _, _, rfl, _⟩ := h; rfl
  · obtain ⟨G0, v, u, f, xs, ys, g, rfl, e, kp, hv, hu, ok, q⟩ := h
    unfold okBy at ok
    rw [Bool.and_eq_true, Bool.and_eq_true] at ok
    obtain ⟨⟨ok0, ok1⟩, ok2⟩ := ok
    obtain ⟨o1, o2, o3, o4⟩ := okF_of ok1
    refine ⟨_, PSs.nox (pss_cons (ps_expr (pe_call (ok_checked_area T) (hr.mono (by decide)) (by rfl) (g_checked_area T) (F_checked_area T).kp (b_checked_area T) .nil passN (pa_cons (pv 1) pa_nil)))
      (pss_one (ps_ret (pe_make (mk_Area T) (ok_Area___init__ T) (hr.mono (by decide)) (by rfl) (g_Area T) (b_Area___init___2 T).choose_spec.2 (b_Area___init___2 T).choose_spec.1 pass0 (pa_cons (pe_call (ok_form_of T) (hr.mono (by decide)) (by rfl) (g_form_of T) (F_form_of T).kp (b_form_of T) .nil pass0 (pa_cons (pe_call (ok_bands_by T) (hr.mono (by decide)) (by rfl) (g_bands_by T) (F_bands_by T).kp (b_bands_by T) .nil pass0 (pa_cons (fldK (K := K) (pv 0) (by rfl) (by rfl)) (pa_cons (fldK (K := K) (pv 1) (by rfl) (by rfl)) (pa_cons (pv 2) pa_nil)))) pa_nil)) pa_nil))))), ?_⟩
    walk_at "go"
    refine ⟨_, _, true, rfl, IsAr.ty T hu e, i_Area_Area T, fun _ => ?_, fun z => nomatch z⟩
    walk_at "go"
    refine fA_form T hv e fun a hq => ?_
    walk_at "go"
    refine fA_form T hu e fun a2 hq2 => ?_
    walk_at "go"
    refine ⟨G0, _, _, f, xs, ys, g, rfl, kp, e, hq, hq2, of_decide_eq_true ok0, fun G1 H1 r1 s1 h1 => ?_⟩
    walk_at "go"
    refine ⟨G1, _, _, rfl, s1.i, h1, o1, o2, o3, o4, fun G2 H2 r2 s2 h2 => ?_⟩
    walk_at "go"
    exact mkArea rfl (.inr h2) ok2 s2.i fun p G3 H3 s3 h3 => q _ _ _ ((s1.trans s2).trans s3) h3
def spBy2 (K : PySem.W.Frag) (g : Bool → Bool → Bool) : Sp := fun vs H Q _ => ∃ G v u xs ys, vs = [v, u] ∧ Ex G H ∧ IsAr K G v xs ∧ IsAr K G u ys ∧ okBy xs ys g = true ∧ ∀ G1 H1 r, St G H G1 H1 → IsAr K G1 r (byA xs ys g) → Q r H1
theorem sc_Area_joined : FnScope ["self", "other"] ["self", "other"] (defScope s_Area_joined) := ⟨rfl, rfl, rfl, by decide +kernel, rfl, by decide +kernel, by decide +kernel⟩
theorem ok_Area_joined (T : TX K mg) : FnOk P w K mg base CX0 10 (f_Area_joined K) (fdO K (f_Area_joined K)) ["self", "other"] (spBy2 K fun a b => a || b) := by
  refine (F_Area_joined T).ok sc_Area_joined (fun vs H Q E h => ?_) (fun cdv A outer s H vs Q E hr h => ?_)
  · obtain ⟨_, _, _, _, _, rfl, _⟩ := h; rfl
  · obtain ⟨G0, v, u, xs, ys, rfl, e, hv, hu, ok, q⟩ := h
    refine ⟨_, PSs.nox (pss_one (ps_ret (pe_meth (pv 0) (k_Area T) (m_Area_by T) (ok_Area_by T) (hr.mono (by decide)) (b_Area_by T) .nil pass0 (pa_cons (pv 1) (pa_cons (pe_glob (v := .ref (He.ga K "either")) (by rfl) (g_either T) rfl) pa_nil))))), ?_⟩
    walk_at "go"
    refine mA hv e (by decide +kernel) ?_
    walk_at "go"
    exact ⟨G0, _, _, _, xs, ys, _, rfl, e, .either, hv, hu, ok, fun G1 H1 r s h => q G1 H1 r s h⟩
theorem sc_Area_without : FnScope ["self", "other"] ["self", "other"] (defScope s_Area_without) := ⟨rfl, rfl, rfl, by decide +kernel, rfl, by decide +kernel, by decide +kernel⟩
theorem ok_Area_without (T : TX K mg) : FnOk P w K mg base CX0 10 (f_Area_without K) (fdO K (f_Area_without K)) ["self", "other"] (spBy2 K fun a b => a && !b) := by
  refine (F_Area_without T).ok sc_Area_without (fun vs H Q E h => ?_) (fun cdv A outer s H vs Q E hr h => ?_)
  · obtain ⟨_, _, _, _, _, rfl, _⟩ := h; rfl
  · obtain ⟨G0, v, u, xs, ys, rfl, e, hv, hu, ok, q⟩ := h
    refine ⟨_, PSs.nox (pss_one (ps_ret (pe_meth (pv 0) (k_Area T) (m_Area_by T) (ok_Area_by T) (hr.mono (by decide)) (b_Area_by T) .nil pass0 (pa_cons (pv 1) (pa_cons (pe_glob (v := .ref (He.ga K "one_alone")) (by rfl) (g_one_alone T) rfl) pa_nil))))), ?_⟩
    walk_at "go"
    refine mA hv e (by decide +kernel) ?_
    walk_at "go"
    exact ⟨G0, _, _, _, xs, ys, _, rfl, e, .one_alone, hv, hu, ok, fun G1 H1 r s h => q G1 H1 r s h⟩
end
end GT

/-! ## PK -/
set_option Elab.async false
set_option linter.all false
set_option maxRecDepth 100000
namespace GT
open PySem PySem.Spec PyProof.Rows L2 G
local macro_rules | `(tactic| walk_at "ex") => `(tactic| first | exact Ex.refl _ | assumption | exact Stm.g (by assumption) | (refine Ex.trans ?_ (Stm.g (by assumption)); walk_at "ex"))
local macro_rules | `(tactic| walk_at "st") => `(tactic| first | exact Stm.refl (by assumption) | assumption | (refine Stm.trans ?_ (by assumption); walk_at "st"))
local macro_rules | `(tactic| walk_at "i") => `(tactic| first | assumption | exact Stm.i (by assumption))
local macro_rules | `(tactic| walk_at "fact") => `(tactic| first | rfl | exact (rfl : V.non = optV none) | exact (rfl : V.int _ = optV (some _)) | assumption)
local macro_rules | `(tactic| walk_at "g") => `(tactic| first
  | with_reducible refine x_seq ?_
  | with_reducible refine x_next ?_
  | with_reducible refine x_asg ?_
  | with_reducible refine x_ret ?_
  | with_reducible refine x_retN ?_
  | with_reducible refine x_drop ?_
  | with_reducible refine x_ifs ?_
  | ((with_reducible refine' x_var ?hv ?_); (case hv => exact rfl))
  | with_reducible refine x_c ?_
  | with_reducible refine x_op ?_
  | with_reducible refine x_un ?_
  | with_reducible refine x_test ?_
  | with_reducible refine x_B ?_
  | with_reducible refine x_bl ?_
  | with_reducible refine x_and ?_
  | with_reducible refine x_or ?_
  | with_reducible refine x_not ?_
  | with_reducible refine x_andV ?_
  | with_reducible refine x_orV ?_
  | with_reducible refine x_notV ?_
  | with_reducible refine x_ife ?_
  | with_reducible refine x_isN ?_
  | with_reducible refine x_notN ?_
  | with_reducible refine x_nil ?_
  | with_reducible refine x_cons ?_
  | with_reducible refine x_cb ?_
  | with_reducible refine x_call ?_
  | ((with_reducible refine' x_callL ?hv ?_); (case hv => exact rfl))
  | with_reducible refine x_gname ?_
  | with_reducible refine x_I0 ?_
  | ((with_reducible refine' x_eq ?hv ?_); (case hv => exact rfl))
  | ((with_reducible refine' x_ne ?hv ?_); (case hv => exact rfl))
  | with_reducible refine x_tupG ?_
  | with_reducible refine x_lstG ?_
  | with_reducible refine x_lc ?_
  | (with_reducible refine x_U ?_)
  | ((with_reducible refine' ite_T ?hv ?_); (case hv => exact rfl))
  | ((with_reducible refine' ite_F ?hv ?_); (case hv => exact rfl))
  | with_reducible refine x_for ?_
  | with_reducible refine x_iEnum ?_
  | with_reducible refine x_iList ?_
  | with_reducible refine x_iTup ?_
  | with_reducible refine x_gcons ?_
  | with_reducible refine x_gnil ?_
  | with_reducible refine x_bm ?_
  | with_reducible refine x_fldG ?_
  | with_reducible refine x_meth ?_
  | with_reducible refine x_sl ?_
  | with_reducible refine x_nopart ?_
  | with_reducible refine x_part ?_
  | with_reducible refine x_int ?_
  | with_reducible refine x_yes ?_
  | with_reducible refine x_isNG ?_
  | with_reducible refine x_notNG ?_
  | fail "no step")
local macro_rules | `(tactic| walk_at "g2") => `(tactic| first
  | with_reducible refine x_sfld ?_
  | with_reducible refine x_make ?_
  | with_reducible refine x_dnew ?_
  | with_reducible refine x_lcT ?_
  | with_reducible refine x_lcS ?_
  | with_reducible refine x_disp ?_
  | with_reducible refine x_pcons ?_
  | with_reducible refine x_pnil ?_
  | with_reducible refine x_dnewK ?_
  | with_reducible refine x_dput ?_
  | with_reducible refine x_gsub ?_
  | with_reducible refine x_dget2 ?_
  | with_reducible refine x_litems ?_
  | with_reducible refine x_bmX ?_
  | with_reducible refine x_ckw ?_
  | with_reducible refine L2Z.x_methS ?_
  | with_reducible refine L2Z.x_methN ?_
  | with_reducible refine x_callSD ?_
  | with_reducible refine x_lcZ ?_
  | walk_at "g")
local macro_rules | `(tactic| walk_at "go") => `(tactic| repeat' walk_at "g2")

section
variable {P : Program} {w : World} {K : PySem.W.Frag} {mg : Str → Option Value} {base : Heap}
/-! ### values -/
/-- a thing that may be a value: b tells whether it is one -/
def ValT (K : PySem.W.Frag) (G : Hp) (x : V) (b : Bool) : Prop := (b = false ∧ ∃ t, Od K G x t ∧ PySem.W.kitOne K t (.type "str") = some false) ∨ (∃ z : Str, x = .str z ∧ z.cps.size ≤ 1000 ∧ b = okV z)
def sp_check_value (K : PySem.W.Frag) : Sp := fun vs H Q E => ∃ G x b, vs = [x] ∧ Ex G H ∧ ValT K G x b ∧ (b = true → ∀ G1 H1, St G H G1 H1 → Q .non H1) ∧ (b = false → ∀ G1 H1, St G H G1 H1 → E (.ref (He.ga K "NoValue")) none H1)
theorem sc_check_value : FnScope ["thing", "sign"] ["thing"] (defScope s_check_value) := ⟨rfl, rfl, rfl, by decide +kernel, rfl, by decide +kernel, by decide +kernel⟩
theorem ok_check_value (T : TX K mg) : FnOk P w K mg base (L2N.CX P w) 1 (f_check_value K) (fdO K (f_check_value K)) ["thing"] (sp_check_value K) := by
  refine (F_check_value T).ok sc_check_value (fun vs H Q E h => ?_) (fun cdv A outer s H vs Q E hr h => ?_)
  · obtain ⟨_, _, _, rfl, _⟩ := h; rfl
  · obtain ⟨G0, x, b, rfl, e, hv, k1, k2⟩ := h
    refine ⟨_, (pss_one (ps_if (PW.pt (pw_or (pt_not (pt_val (pe_callB (isiK (K := K) (by rfl)) (by rfl) (z_isinstance T) PyProof.Rows.boot_isinstance (pa_cons (pv 0) (pa_cons (pe_bltn (v := .ty "str") (by rfl) (z_str T) (by decide +kernel) rfl) pa_nil))))) (pw_or (pt_cmpR op_gt (pe_callB lenS (by rfl) (z_len T) PySem.boot_len (pa_cons (pv 0) pa_nil)) (pe_glob (v := .int 40) (by rfl) (c_MOST T).choose_spec ⟨_, rfl⟩) (nomark _)) (pw_or1 (pt_not (pt_val (pe_callB (cr_all rfl) (by rfl) (z_all T) PyProof.Rows.boot_all (pa_cons (pe_lc (own := [("sign", 1)]) (g := gName 1) (by rfl) sc_check_value.nd (pi_str (pv 0)) (blkOk_by (own := [("sign", 1)]) (N := ["thing", "sign"]) (sc := defScope s_check_value) (by decide +kernel)) (fun _ _ _ _ _ => (pg_name (i := 1) sc_check_value.nd rfl (by first | exact Or.inl rfl | exact Or.inr rfl))) (fun _ _ _ _ _ => pts_nil) (fun _ _ _ _ _ => (pe_cmpR op_inS (pv 1) (pe_glob (v := .str "abcdefghijklmnopqrstuvwxyz0123456789 ") (by rfl) (c_SIGNS T).choose_spec ⟨_, rfl⟩) (by rfl)))) pa_nil)))))))) (pss_one (L2N.ps_raise rfl (L2N.takes_of rfl rfl rfl rfl) (L2N.pmk_own PySem.F.excBase_ValueError (e_NoValue T).1 (g_NoValue T) (e_NoValue T).2.1 (raises_own (e_NoValue T).2.2.1 (e_NoValue T).2.2.2) (by rfl)))) pss_nil)), ?_⟩
    walk_at "go"
    rcases hv with ⟨rfl, t, ty, kt⟩ | ⟨z, rfl, hz, rfl⟩
    · refine isiG (.ty "str") (ty H e) kt ?_
      walk_at "go"
      exact k2 rfl _ _ (Stm.refl e)
    · refine isiG (.ty "str") (.base (.str z)) (kit_ty (b := "str") (r := true) (by decide +kernel)) ?_
      walk_at "go"
      have hz1 : z.length ≤ sizeLine := Nat.le_trans hz (by decide)
      refine ⟨z, rfl, hz1, ?_⟩
      walk_at "go"
      refine ite_b2 (fun c1 => ?_) (fun c1 => ?_)
      · walk_at "go"
        have hf : okV z = false := by
          have h0 := of_decide_eq_true c1
          have h1 : (z.length : Int) = (z.cps.size : Int) := rfl
          unfold okV
          rw [decide_eq_false (by omega)]; rfl
        exact k2 hf _ _ (Stm.refl e)
      · have h0 := of_decide_eq_false c1
        have h1 : (z.length : Int) = (z.cps.size : Int) := rfl
        have hs : decide (z.cps.size ≤ 40) = true := decide_eq_true (by omega)
        walk_at "go"
        refine ⟨z, rfl, ?_⟩
        refine lcS (S := IsB) IsB.mono (fun c => decide (c ∈ vsigns)) e (Nat.lt_of_le_of_lt hz (by decide)) (fun c G1 H1 N0 N1 hm s1 n1 => ?_) fun G1 H1 D s1 hD => ?_
        · refine ⟨rfl, ?_⟩
          walk_at "go"
          exact ⟨c, _, rfl, rfl, n1 _ _ _ (Stm.refl s1.i) rfl⟩
        · walk_at "go"
          refine allL hD s1.i ?_
          have e1 : ((z.cps.toList.map fun c => decide (c ∈ vsigns)).all id) = okV z := by
            unfold okV
            rw [hs, Bool.true_and, List.all_map]; rfl
          rw [e1]
          refine ⟨_, rfl, ?_⟩
          cases hb : okV z with
          | true => exact k1 hb _ _ s1
          | false => exact k2 hb _ _ s1
/-! ### sheets -/
theorem fS_held {G H : Hp} {p d : Addr} {kvs : List (Key × V)} {Q : VK} (T : TX K mg) (m : MuS K G H p d kvs) (h : Q (.ref d) H) : FldGo K "held" (.ref p) H Q := by
  obtain ⟨dx, hp⟩ := m.o
  exact fldG hp.1 (k_Sheet T) (n_Sheet_held T) (shF_held d) h
theorem mS {G H : Hp} {p d : Addr} {kvs : List (Key × V)} {m : Str} {sp : Sp} {dvs : List V} {E : XK} {t : TA} {σ : L2.St} {Q : VK} (ms : MuS K G H p d kvs) (hm : ¬ m = "held") (h : t σ H fun vs H2 => sp (.ref p :: (vs ++ dvs)) H2 Q E) : MethGo (He.ga K "Sheet") m sp dvs E t σ (.ref p) H Q := by
  obtain ⟨dx, hp⟩ := ms.o
  exact methG hp.1 (shF_no d hm) h
theorem norm_all : norm wholeB = wholeB := by decide +kernel
theorem okN_all : okN wholeB = true := by decide +kernel
theorem norm_nil : norm [] = [] := by decide +kernel
theorem okN_nil : okN [] = true := by decide +kernel
def sp_Sheet_init (K : PySem.W.Frag) : Sp := fun vs H Q _ => ∃ G p dx, vs = [.ref p] ∧ Ex G H ∧ Mu G H p (.ins (He.ga K "Sheet") dx []) ∧
  ∀ G1 H1 d kvs, Stm [p] G H G1 H1 → MuS K G1 H1 p d kvs → HD K G1 kvs [("", wholeB)] → H d = none → Q .non H1
theorem sc_Sheet___init__ : FnScope ["self"] ["self"] (defScope s_Sheet___init__) := ⟨rfl, rfl, rfl, by decide +kernel, rfl, by decide +kernel, by decide +kernel⟩
theorem ok_Sheet___init__ (T : TX K mg) : FnOk P w K mg base CX0 9 (f_Sheet___init__ K) (fdO K (f_Sheet___init__ K)) ["self"] (sp_Sheet_init K) := by
  refine (F_Sheet___init__ T).ok sc_Sheet___init__ (fun vs H Q E h => ?_) (fun cdv A outer s H vs Q E hr h => ?_)
  · obtain ⟨_, _, _, rfl, _⟩ := h; rfl
  · obtain ⟨G0, p, dx, rfl, e, mp, k⟩ := h
    refine ⟨_, PSs.nox (pss_one (ps_fld (pv 0) (pe_disp (pps_cons pe_str (pe_make (mk_Area T) (ok_Area___init__ T) (hr.mono (by decide)) (by rfl) (g_Area T) (b_Area___init___2 T).choose_spec.2 (b_Area___init___2 T).choose_spec.1 pass0 (pa_cons (pe_lst (pa_cons (pe_make0 (mk_Block T) (ok_Block___init__ T) (hr.mono (by decide)) (by rfl) (g_Block T) (b_Block___init___1 T).choose_spec.2 (b_Block___init___1 T).choose_spec.1 pass0) pa_nil)) pa_nil)) pps_nil) (by rfl) (by rfl) (fun z => by cases z) (by decide)) (by rfl))), ?_⟩
    walk_at "go"
    refine dispM e fun d H1 hd s1 m1 => ?_
    walk_at "go"
    refine mkBlk (b := ⟨1, 1, none, none⟩) rfl (by decide) s1.i fun pb G2 H2 s2 hb => ?_
    walk_at "go"
    refine lstI s2.i (by show 1 ≤ 1000; decide) fun pl G3 H3 s3 g3 => ?_
    walk_at "go"
    have hL : IsL (IsBlk K) G3 (.ref pl) wholeB := ⟨pl, _, rfl, g3, .cons (IsBlk.mono _ _ _ _ s3.g hb) .nil⟩
    refine mkArea rfl (.inr hL) okN_all s3.i fun pa G4 H4 s4 ha => ?_
    rw [norm_all] at ha
    walk_at "go"
    have st := (s2.trans s3).trans s4
    have m4 := st.mu m1
    have hne : p ≠ d := fun c => by have q := mp.1; rw [c, hd] at q; cases q
    refine ⟨m4.1, [(Sum.inr "", .ref pa)], rfl, by show 1 ≤ 15; decide, ?_⟩
    obtain ⟨s5, m5⟩ := chgF (o' := .dK (mergeK [] [(Sum.inr (Str.ofString ""), V.ref pa)])) m4 s4.i
    have sa : Stm [d] G0 H G4 _ := (St.up ((s1.trans st))).trans s5
    have sb : St G0 H G4 _ := Stm.fresh (Stm.refl e) sa fun a ha => by rw [List.mem_singleton.mp ha]; exact hd
    walk_at "go"
    have mp5 := sb.mu mp
    refine setF mp5.1 (k_Sheet T) (n_Sheet_held T) (by decide) ?_
    obtain ⟨s6, m6⟩ := chgF (o' := .ins (He.ga K "Sheet") dx (shF d)) mp5 sb.i
    refine k G4 _ d [(Sum.inr (Str.ofString ""), V.ref pa)] ((St.up sb).trans s6) ⟨⟨dx, m6⟩, ?_⟩ (.cons ⟨rfl, ha⟩ .nil) hd
    exact s6.m _ _ (fun q => hne (List.mem_singleton.mp q).symm) m5
end
end GT

/-! ## PL -/
set_option Elab.async false
set_option linter.all false
set_option maxRecDepth 100000
namespace GT
open PySem PySem.Spec PyProof.Rows L2 G
local macro_rules | `(tactic| walk_at "ex") => `(tactic| first | exact Ex.refl _ | assumption | exact Stm.g (by assumption) | (refine Ex.trans ?_ (Stm.g (by assumption)); walk_at "ex"))
local macro_rules | `(tactic| walk_at "st") => `(tactic| first | exact Stm.refl (by assumption) | assumption | (refine Stm.trans ?_ (by assumption); walk_at "st"))
local macro_rules | `(tactic| walk_at "i") => `(tactic| first | assumption | exact Stm.i (by assumption))
local macro_rules | `(tactic| walk_at "fact") => `(tactic| first | rfl | exact (rfl : V.non = optV none) | exact (rfl : V.int _ = optV (some _)) | assumption)
local macro_rules | `(tactic| walk_at "g") => `(tactic| first
  | with_reducible refine x_seq ?_
  | with_reducible refine x_next ?_
  | with_reducible refine x_asg ?_
  | with_reducible refine x_ret ?_
  | with_reducible refine x_retN ?_
  | with_reducible refine x_drop ?_
  | with_reducible refine x_ifs ?_
  | ((with_reducible refine' x_var ?hv ?_); (case hv => exact rfl))
  | with_reducible refine x_c ?_
  | with_reducible refine x_op ?_
  | with_reducible refine x_un ?_
  | with_reducible refine x_test ?_
  | with_reducible refine x_B ?_
  | with_reducible refine x_bl ?_
  | with_reducible refine x_and ?_
  | with_reducible refine x_or ?_
  | with_reducible refine x_not ?_
  | with_reducible refine x_andV ?_
  | with_reducible refine x_orV ?_
  | with_reducible refine x_notV ?_
  | with_reducible refine x_ife ?_
  | with_reducible refine x_isN ?_
  | with_reducible refine x_notN ?_
  | with_reducible refine x_nil ?_
  | with_reducible refine x_cons ?_
  | with_reducible refine x_cb ?_
  | with_reducible refine x_call ?_
  | ((with_reducible refine' x_callL ?hv ?_); (case hv => exact rfl))
  | with_reducible refine x_gname ?_
  | with_reducible refine x_I0 ?_
  | ((with_reducible refine' x_eq ?hv ?_); (case hv => exact rfl))
  | ((with_reducible refine' x_ne ?hv ?_); (case hv => exact rfl))
  | with_reducible refine x_tupG ?_
  | with_reducible refine x_lstG ?_
  | with_reducible refine x_lc ?_
  | (with_reducible refine x_U ?_)
  | ((with_reducible refine' ite_T ?hv ?_); (case hv => exact rfl))
  | ((with_reducible refine' ite_F ?hv ?_); (case hv => exact rfl))
  | with_reducible refine x_for ?_
  | with_reducible refine x_iEnum ?_
  | with_reducible refine x_iList ?_
  | with_reducible refine x_iTup ?_
  | with_reducible refine x_gcons ?_
  | with_reducible refine x_gnil ?_
  | with_reducible refine x_bm ?_
  | with_reducible refine x_fldG ?_
  | with_reducible refine x_meth ?_
  | with_reducible refine x_sl ?_
  | with_reducible refine x_nopart ?_
  | with_reducible refine x_part ?_
  | with_reducible refine x_int ?_
  | with_reducible refine x_yes ?_
  | with_reducible refine x_isNG ?_
  | with_reducible refine x_notNG ?_
  | fail "no step")
local macro_rules | `(tactic| walk_at "g2") => `(tactic| first
  | with_reducible refine x_sfld ?_
  | with_reducible refine x_make ?_
  | with_reducible refine x_dnew ?_
  | with_reducible refine x_lcT ?_
  | with_reducible refine x_lcS ?_
  | with_reducible refine x_disp ?_
  | with_reducible refine x_pcons ?_
  | with_reducible refine x_pnil ?_
  | with_reducible refine x_dnewK ?_
  | with_reducible refine x_dput ?_
  | with_reducible refine x_gsub ?_
  | with_reducible refine x_dget2 ?_
  | with_reducible refine x_litems ?_
  | with_reducible refine x_bmX ?_
  | with_reducible refine x_ckw ?_
  | with_reducible refine L2Z.x_methS ?_
  | with_reducible refine L2Z.x_methN ?_
  | with_reducible refine x_callSD ?_
  | with_reducible refine x_lcZ ?_
  | walk_at "g")
local macro_rules | `(tactic| walk_at "go") => `(tactic| repeat' walk_at "g2")

section
variable {P : Program} {w : World} {K : PySem.W.Frag} {mg : Str → Option Value} {base : Heap}
theorem shF_put (d d' : Addr) : putF "held" (.ref d') (shF d) = shF d' := by rfl
theorem shF_len (d : Addr) : (shF d).length < 1000 := by show 1 < 1000; decide
def sp_Sheet_hold (K : PySem.W.Frag) : Sp := fun vs H Q _ => ∃ G p d kvs d2 kvs2 hs, vs = [.ref p, .ref d2] ∧ Ex G H ∧ MuS K G H p d kvs ∧ Mu G H d2 (.dK kvs2) ∧ HD K G kvs2 hs ∧ kn hs ∧ hs.length ≤ 100 ∧ szH hs = true ∧
  ∀ G1 H1 d' kvs', Stm [p] G H G1 H1 → MuS K G1 H1 p d' kvs' → HD K G1 kvs' (hs.filter nonE) → (hs.all nonE = true → kvs' = kvs2) → H d' = none → Q .non H1
theorem sc_Sheet_hold : FnScope ["self", "held", "value", "area"] ["self", "held"] (defScope s_Sheet_hold) := ⟨rfl, rfl, rfl, by decide +kernel, rfl, by decide +kernel, by decide +kernel⟩
theorem ok_Sheet_hold (T : TX K mg) : FnOk P w K mg base CX0 3 (f_Sheet_hold K) (fdO K (f_Sheet_hold K)) ["self", "held"] (sp_Sheet_hold K) := by
  refine (F_Sheet_hold T).ok sc_Sheet_hold (fun vs H Q E h => ?_) (fun cdv A outer s H vs Q E hr h => ?_)
  · obtain ⟨_, _, _, _, _, _, _, rfl, _⟩ := h; rfl
  · obtain ⟨G0, p, d, kvs, d2, kvs2, hs, rfl, e, ms, m2, hD, hk, hz, hsz, k⟩ := h
    have hu : (A.deeper (envOfC (Str.ofString "Sheet.hold") (defScope s_Sheet_hold) s.heap.objs.size (f_Sheet_hold K) cdv)).units + 1 < cLine := by have := hr.un; omega
    refine ⟨_, PSs.nox (pss_cons (ps_fld (pv 0) pe_dnewK (by rfl))
      (pss_one (ps_lock (ps_for PassesOwn.never rfl (pi_items (pv 1)) (pg_tup (by rfl) (pgs_cons (pg_name (i := 2) sc_Sheet_hold.nd rfl (by first | exact Or.inl rfl | exact Or.inr rfl)) (pgs_cons (pg_name (i := 3) sc_Sheet_hold.nd rfl (by first | exact Or.inl rfl | exact Or.inr rfl)) pgs_nil))) (pss_one (ps_if (pt_cmpR op_gt (pe_callB (lenO (ok_Area___len__ T) (hr.mono (by decide)) (m_Area___len__ T) (b_Area___len__ T) pass0) (by rfl) (z_len T) PySem.boot_len (pa_cons (pv 3) pa_nil)) pe_int (nomark _)) (pss_one (ps_dput hu (fldK (K := K) (pv 0) (by rfl) (by rfl)) (pv 2) (pv 3) rfl)) pss_nil)))))), ?_⟩
    walk_at "go"
    refine dnewK e fun d' H1 hd' s1 m1 => ?_
    walk_at "go"
    obtain ⟨dx, mp0⟩ := ms.o
    have mp1 := s1.mu mp0
    have m21 := s1.mu m2
    have hpd : p ≠ d' := fun c => by have q := mp0.1; rw [c, hd'] at q; cases q
    have hpd2 : p ≠ d2 := fun c => by have q := mp0.1; rw [c, m2.1] at q; cases q
    have hdd : d2 ≠ d' := fun c => by have q := m2.1; rw [c, hd'] at q; cases q
    refine setF mp1.1 (k_Sheet T) (n_Sheet_held T) (shF_len d) ?_
    rw [shF_put]
    obtain ⟨s2, mp2⟩ := chgF (o' := .ins (He.ga K "Sheet") dx (shF d')) mp1 s1.i
    have m12 := s2.m _ _ (fun q => hpd (List.mem_singleton.mp q).symm) m1
    have m22 := s2.m _ _ (fun q => hpd2 (List.mem_singleton.mp q).symm) m21
    have hlk : kvs2.length = hs.length := hD.len
    generalize upd H1 p (.ins (He.ga K "Sheet") dx (shF d')) = H2 at s2 mp2 m12 m22 ⊢
    walk_at "go"
    refine forI (K := K) (d := d2) (kvs := kvs2) (hs := hs) (fun H' R _ h => ⟨_, rfl, h⟩) m22 hD s2.i (fun od i σ' G' H' => ∃ o2 o3 kvs', σ' = [some (.ref p), some (.ref d2), o2, o3] ∧ Stm [d2, d'] G0 H2 G' H' ∧ Mu G' H' d2 (.frz od (.dK kvs2)) ∧ Mu G' H' p (.ins (He.ga K "Sheet") dx (shF d')) ∧ Mu G' H' d' (.dK kvs') ∧ HD K G' kvs' ((hs.take i).filter nonE) ∧ (hs.all nonE = true → kvs' = kvs2.take i))
      (fun od H3 s3 m3 => ⟨none, none, [], rfl, s3.sub (by simp), m3, s3.m _ _ (fun q => hpd2 (List.mem_singleton.mp q)) mp2, s3.m _ _ (fun q => hdd (List.mem_singleton.mp q).symm) m12, .nil, fun _ => rfl⟩)
      (fun od i σ' G' H' _ ⟨_, _, _, _, s, m, _⟩ => ⟨s.g, s.i, m⟩) ?_ ?_
    · rintro od i x w' Tt σ1 G3 H3 G4 H4 D2 hi hki ⟨o2, o3, kvs', rfl, sA, m2A, mpA, m1A, hA, hB⟩ s4 hw hT hnx
      refine x_gtup (s4.i _ _ hT) rfl ?_
      walk_at "go"
      have hw' := hw
      obtain ⟨pa, dxa, qa, rfl, hpa, hqa⟩ := hw'
      refine ⟨pa, dxa, arF qa, rfl, s4.i _ _ hpa, ?_⟩
      have hxl : x.2.length ≤ 1500 := of_decide_eq_true (List.all_eq_true.mp hsz x (List.mem_of_getElem? hi))
      refine ⟨G4, _, x.2, rfl, s4.i, hw, x.2.length, rfl, by omega, ?_⟩
      walk_at "go"
      have m1B := s4.mu m1A
      have mpB := s4.mu mpA
      have m2B := s4.mu m2A
      have hkl : kvs'.length < sizeLine := by
        have q1 := hA.len
        have q2 := List.length_filter_le nonE (hs.take i)
        have q3 : (hs.take i).length ≤ hs.length := by rw [List.length_take]; exact Nat.min_le_right _ _
        have q4 : 101 < sizeLine := by decide
        omega
      refine ite_b2 (fun c1 => ?_) (fun c1 => ?_)
      · have hne : nonE x = true := by
          have c2 := of_decide_eq_true c1
          unfold nonE
          cases hx2 : x.2 with
          | nil => rw [hx2] at c2; simp at c2
          | cons a l => rfl
        walk_at "go"
        refine fldG mpB.1 (k_Sheet T) (n_Sheet_held T) (shF_held d') ?_
        walk_at "go"
        refine putG m1B s4.i hkl fun H5 s5 m5 => ?_
        have hfr : putK kvs' (Sum.inr x.1) (.ref pa) = kvs' ++ [(Sum.inr x.1, .ref pa)] := hA.fresh (fun y hy => kn_take hk hi y (List.mem_filter.mp hy).1) _
        rw [hfr] at m5
        refine hnx _ G4 H5 ⟨_, _, _, rfl, (sA.trans (St.up s4)).trans (s5.sub (by simp)), s5.m _ _ (fun q => hdd (List.mem_singleton.mp q)) m2B, s5.m _ _ (fun q => hpd (List.mem_singleton.mp q)) mpB, m5, ?_, ?_⟩
        · rw [take_more hi, List.filter_append]
          have e1 : List.filter nonE [x] = [x] := by simp [hne]
          rw [e1]
          exact paired_snoc ⟨rfl, hw⟩ (hA.mono s4.g)
        · intro ha
          rw [hB ha, take_more hki]
      · have hne : nonE x = false := by
          have c2 := of_decide_eq_false c1
          unfold nonE
          cases hx2 : x.2 with
          | nil => rfl
          | cons a l => rw [hx2] at c2; simp at c2
        walk_at "go"
        refine hnx _ G4 H4 ⟨_, _, _, rfl, sA.trans (St.up s4), m2B, mpB, m1B, ?_, ?_⟩
        · rw [take_more hi, List.filter_append]
          have e1 : List.filter nonE [x] = [] := by simp [hne]
          rw [e1, List.append_nil]
          exact hA.mono s4.g
        · intro ha
          have := List.all_eq_true.mp ha x (List.mem_of_getElem? hi)
          rw [hne] at this; cases this
    · rintro od σ' G' H' H5 ⟨o2, o3, kvs', rfl, sA, m2A, mpA, m1A, hA, hB⟩ s5 m5
      rw [List.take_length] at hA
      have mpB := s5.m _ _ (fun q => hpd2 (List.mem_singleton.mp q)) mpA
      have m1B := s5.m _ _ (fun q => hdd (List.mem_singleton.mp q).symm) m1A
      have s6 : Stm [d'] G0 H2 G' H5 := Stm.closeA (sA.trans (s5.sub (by simp))) m22 m5
      have s7 : Stm [d', p] G0 H G' H5 := (St.up s1).trans ((s2.sub (by simp)).trans (s6.sub (by simp)))
      have s8 : Stm [p] G0 H G' H5 := ⟨s7.g, s7.i, fun q o n h => s7.m q o (fun z => by
        rcases List.mem_cons.mp z with rfl | z
        · have h1 := h.1; rw [hd'] at h1; cases h1
        · exact n z) h⟩
      refine k G' H5 d' kvs' s8 ⟨⟨dx, mpB⟩, m1B⟩ hA (fun ha => ?_) hd'
      rw [hB ha, ← hlk, List.take_length]
end
end GT

/-! ## PM -/
set_option Elab.async false
set_option linter.all false
set_option maxRecDepth 100000
set_option maxHeartbeats 400000
namespace GT
open PySem PySem.Spec PyProof.Rows L2 G
local macro_rules | `(tactic| walk_at "ex") => `(tactic| first | exact Ex.refl _ | assumption | exact Stm.g (by assumption) | (refine Ex.trans ?_ (Stm.g (by assumption)); walk_at "ex"))
local macro_rules | `(tactic| walk_at "st") => `(tactic| first | exact Stm.refl (by assumption) | assumption | (refine Stm.trans ?_ (by assumption); walk_at "st"))
local macro_rules | `(tactic| walk_at "i") => `(tactic| first | assumption | exact Stm.i (by assumption))
local macro_rules | `(tactic| walk_at "fact") => `(tactic| first | rfl | exact (rfl : V.non = optV none) | exact (rfl : V.int _ = optV (some _)) | assumption)
local macro_rules | `(tactic| walk_at "g") => `(tactic| first
  | with_reducible refine x_seq ?_
  | with_reducible refine x_next ?_
  | with_reducible refine x_asg ?_
  | with_reducible refine x_ret ?_
  | with_reducible refine x_retN ?_
  | with_reducible refine x_drop ?_
  | with_reducible refine x_ifs ?_
  | ((with_reducible refine' x_var ?hv ?_); (case hv => exact rfl))
  | with_reducible refine x_c ?_
  | with_reducible refine x_op ?_
  | with_reducible refine x_un ?_
  | with_reducible refine x_test ?_
  | with_reducible refine x_B ?_
  | with_reducible refine x_bl ?_
  | with_reducible refine x_and ?_
  | with_reducible refine x_or ?_
  | with_reducible refine x_not ?_
  | with_reducible refine x_andV ?_
  | with_reducible refine x_orV ?_
  | with_reducible refine x_notV ?_
  | with_reducible refine x_ife ?_
  | with_reducible refine x_isN ?_
  | with_reducible refine x_notN ?_
  | with_reducible refine x_nil ?_
  | with_reducible refine x_cons ?_
  | with_reducible refine x_cb ?_
  | with_reducible refine x_call ?_
  | ((with_reducible refine' x_callL ?hv ?_); (case hv => exact rfl))
  | with_reducible refine x_gname ?_
  | with_reducible refine x_I0 ?_
  | ((with_reducible refine' x_eq ?hv ?_); (case hv => exact rfl))
  | ((with_reducible refine' x_ne ?hv ?_); (case hv => exact rfl))
  | with_reducible refine x_tupG ?_
  | with_reducible refine x_lstG ?_
  | with_reducible refine x_lc ?_
  | (with_reducible refine x_U ?_)
  | ((with_reducible refine' ite_T ?hv ?_); (case hv => exact rfl))
  | ((with_reducible refine' ite_F ?hv ?_); (case hv => exact rfl))
  | with_reducible refine x_for ?_
  | with_reducible refine x_iEnum ?_
  | with_reducible refine x_iList ?_
  | with_reducible refine x_iTup ?_
  | with_reducible refine x_gcons ?_
  | with_reducible refine x_gnil ?_
  | with_reducible refine x_bm ?_
  | with_reducible refine x_fldG ?_
  | with_reducible refine x_meth ?_
  | with_reducible refine x_sl ?_
  | with_reducible refine x_nopart ?_
  | with_reducible refine x_part ?_
  | with_reducible refine x_int ?_
  | with_reducible refine x_yes ?_
  | with_reducible refine x_isNG ?_
  | with_reducible refine x_notNG ?_
  | fail "no step")
local macro_rules | `(tactic| walk_at "g2") => `(tactic| first
  | with_reducible refine x_sfld ?_
  | with_reducible refine x_make ?_
  | with_reducible refine x_dnew ?_
  | with_reducible refine x_lcT ?_
  | with_reducible refine x_lcS ?_
  | with_reducible refine x_disp ?_
  | with_reducible refine x_pcons ?_
  | with_reducible refine x_pnil ?_
  | with_reducible refine x_dnewK ?_
  | with_reducible refine x_dput ?_
  | with_reducible refine x_gsub ?_
  | with_reducible refine x_dget2 ?_
  | with_reducible refine x_litems ?_
  | with_reducible refine x_bmX ?_
  | with_reducible refine x_ckw ?_
  | with_reducible refine L2Z.x_methS ?_
  | with_reducible refine L2Z.x_methN ?_
  | with_reducible refine x_callSD ?_
  | with_reducible refine x_lcZ ?_
  | walk_at "g")
local macro_rules | `(tactic| walk_at "go") => `(tactic| repeat' walk_at "g2")

section
variable {P : Program} {w : World} {K : PySem.W.Frag} {mg : Str → Option Value} {base : Heap}
/-- a thing that may be an area -/
def AreaT (K : PySem.W.Frag) (G : Hp) (x : V) (o : Option (List Blk)) : Prop := (o = none ∧ ∃ t, Od K G x t ∧ PySem.W.kitOne K t (.ref (He.ga K "Area")) = some false) ∨ (∃ a, o = some a ∧ IsAr K G x a)
def sp_Sheet_fill (K : PySem.W.Frag) : Sp := fun vs H Q E => ∃ G p d kvs hs x y o b, vs = [.ref p, x, y] ∧ Ex G H ∧ MuS K G H p d kvs ∧ HD K G kvs hs ∧ kn hs ∧ AreaT K G x o ∧ ValT K G y b ∧
  (o = none → ∀ G1 H1, St G H G1 H1 → E (.ref (He.ga K "NoArea")) none H1) ∧
  (∀ a, o = some a → b = false → ∀ G1 H1, St G H G1 H1 → E (.ref (He.ga K "NoValue")) none H1) ∧
  (∀ a z, o = some a → y = .str z → b = true → okFill hs a z = true ∧ ∀ G1 H1 d' kvs', Stm [p] G H G1 H1 → MuS K G1 H1 p d' kvs' → HD K G1 kvs' (fillH hs a z) → H d' = none → Q .non H1)
theorem sc_Sheet_fill : FnScope ["self", "area", "value", "held", "one", "place"] ["self", "area", "value"] (defScope s_Sheet_fill) := ⟨rfl, rfl, rfl, by decide +kernel, rfl, by decide +kernel, by decide +kernel⟩
theorem ok_Sheet_fill (T : TX K mg) : FnOk P w K mg base (L2N.CX P w) 11 (f_Sheet_fill K) (fdO K (f_Sheet_fill K)) ["self", "area", "value"] (sp_Sheet_fill K) := by
  refine (F_Sheet_fill T).ok sc_Sheet_fill (fun vs H Q E h => ?_) (fun cdv A outer s H vs Q E hr h => ?_)
  · obtain ⟨_, _, _, _, _, _, _, _, _, rfl, _⟩ := h; rfl
  · obtain ⟨G0, p, d, kvs, hs, x, y, o, b, rfl, e, ms, hD, hk, hx, hy, k1, k2, k3⟩ := h
    have hu : (A.deeper (envOfC (Str.ofString "Sheet.fill") (defScope s_Sheet_fill) s.heap.objs.size (f_Sheet_fill K) cdv)).units + 1 < cLine := by have := hr.un; omega
    refine ⟨_, (pss_cons (ps_expr (pe_call (ok_checked_area T) (hr.mono (by decide)) (by rfl) (g_checked_area T) (F_checked_area T).kp (b_checked_area T) .nil (passE (L2N.takes_of rfl rfl rfl rfl)) (pa_cons (pv 1) pa_nil)))
      (pss_cons (ps_expr (pe_call (ok_check_value T) (hr.mono (by decide)) (by rfl) (g_check_value T) (F_check_value T).kp (b_check_value T) .nil (passE (L2N.takes_of rfl rfl rfl rfl)) (pa_cons (pv 2) pa_nil)))
      (pss_cons (ps_set (i := 3) sc_Sheet_fill.nd rfl (by first | exact Or.inl rfl | exact Or.inr rfl) pe_dnewK)
      (pss_cons (ps_lock (ps_for (passes_of rfl) rfl (pi_items (fldK (K := K) (pv 0) (by rfl) (by rfl))) (pg_tup (by rfl) (pgs_cons (pg_name (i := 4) sc_Sheet_fill.nd rfl (by first | exact Or.inl rfl | exact Or.inr rfl)) (pgs_cons (pg_name (i := 5) sc_Sheet_fill.nd rfl (by first | exact Or.inl rfl | exact Or.inr rfl)) pgs_nil))) (pss_one (ps_dput hu (pv 3) (pv 4) (pe_meth (pv 5) (k_Area T) (m_Area_without T) (ok_Area_without T) (hr.mono (by decide)) (b_Area_without T) .nil pass0 (pa_cons (pv 1) pa_nil)) rfl))))
      (pss_cons (ps_dput hu (pv 3) (pv 2) (pe_meth (pe_dget2 hu (pv 3) (pv 2) (pe_make0 (mk_Area T) (ok_Area___init__ T) (hr.mono (by decide)) (by rfl) (g_Area T) (b_Area___init___1 T).choose_spec.2 (b_Area___init___1 T).choose_spec.1 pass0) (by constructor <;> rfl)) (k_Area T) (m_Area_joined T) (ok_Area_joined T) (hr.mono (by decide)) (b_Area_joined T) .nil pass0 (pa_cons (pv 1) pa_nil)) rfl)
      (pss_one (ps_expr (pe_meth (pv 0) (k_Sheet T) (m_Sheet_hold T) (ok_Sheet_hold T) (hr.mono (by decide)) (b_Sheet_hold T) .nil pass0 (pa_cons (pv 3) pa_nil))))))))), ?_⟩
    walk_at "go"
    rcases hx with ⟨rfl, t, ty, kt⟩ | ⟨a, rfl, ha⟩
    · exact ⟨_, t, false, rfl, ty H e, kt, (fun z => by cases z), fun _ => k1 rfl _ _ (Stm.refl e)⟩
    refine ⟨_, _, true, rfl, IsAr.ty T ha e, i_Area_Area T, fun _ => ?_, fun z => nomatch z⟩
    walk_at "go"
    refine ⟨G0, y, b, rfl, e, hy, fun hb G1 H1 s1 => ?_, fun hb G1 H1 s1 => k2 a rfl hb _ _ s1⟩
    rcases hy with ⟨rfl, _⟩ | ⟨z, rfl, hz, _⟩
    · cases hb
    obtain ⟨okf, k⟩ := k3 a z rfl rfl hb
    unfold okFill at okf
    rw [Bool.and_eq_true, Bool.and_eq_true, Bool.and_eq_true] at okf
    obtain ⟨⟨⟨f1, f2⟩, f3⟩, f4⟩ := okf
    have f4 := of_decide_eq_true f4
    walk_at "go"
    refine dnewK s1.i fun d2 H2 hd2 s2 m2 => ?_
    walk_at "go"
    have ms2 := (ms.st s1).st s2
    have hD1 := hD.mono s1.g
    have ha1 := IsAr.mono _ _ _ _ s1.g ha
    have hlk : kvs.length = hs.length := hD.len
    have hdd : d ≠ d2 := fun c => by have q := ((ms.st s1).d).1; rw [c, hd2] at q; cases q
    have hpd2 : p ≠ d2 := fun c => by obtain ⟨dx, q⟩ := (ms.st s1).o; have q := q.1; rw [c, hd2] at q; cases q
    have hpd := ms.ne
    have hcl : (cutH hs a).length = hs.length := by unfold cutH; rw [List.length_map]
    have hck : kn (cutH hs a) := mapH_kn (f := fun c => byA c a fun a b => a && !b) hk
    refine forI (K := K) (d := d) (kvs := kvs) (hs := hs) (fun H' R hH h => ?_) ms2.d hD1 s2.i (fun od i σ' G' H' => ∃ o4 o5 kvs', σ' = [some (.ref p), some x, some (.str z), some (.ref d2), o4, o5] ∧ Stm [d, d2] G1 H2 G' H' ∧ Mu G' H' d (.frz od (.dK kvs)) ∧ Mu G' H' d2 (.dK kvs') ∧ HD K G' kvs' ((cutH hs a).take i))
      (fun od H3 s3 m3 => ⟨none, none, [], rfl, s3.sub (by simp), m3, s3.m _ _ (fun q => hdd (List.mem_singleton.mp q).symm) m2, .nil⟩)
      (fun od i σ' G' H' _ ⟨_, _, _, _, s, m, _⟩ => ⟨s.g, s.i, m⟩) ?_ ?_
    · obtain ⟨dx, q⟩ := ms2.o
      walk_at "go"
      exact fldG (by rw [hH p hpd]; exact q.1) (k_Sheet T) (n_Sheet_held T) (shF_held d) h
    · rintro od i v w' Tt σ1 G3 H3 G4 H4 D2 hi hki ⟨o4, o5, kvs', rfl, sA, mdA, m2A, hA⟩ s4 hw hT hnx
      refine x_gtup (s4.i _ _ hT) rfl ?_
      walk_at "go"
      refine mA hw s4.i (by decide +kernel) ?_
      walk_at "go"
      have okv : okBy v.2 a (fun a b => a && !b) = true := List.all_eq_true.mp f1 v (List.mem_of_getElem? hi)
      refine ⟨G4, _, _, v.2, a, rfl, s4.i, hw, IsAr.mono _ _ _ _ (sA.trans (St.up s4)).g ha1, okv, fun G5 H5 r5 s5 h5 => ?_⟩
      have h5' := h5
      obtain ⟨pr, dxr, qr, rfl, _, _⟩ := h5'
      walk_at "go"
      have m2B := s5.mu (s4.mu m2A)
      have hci : (cutH hs a)[i]? = some (v.1, byA v.2 a fun a b => a && !b) := by
        unfold cutH; rw [List.getElem?_map, hi]; rfl
      have hkl : kvs'.length < sizeLine := by
        have q1 := hA.len
        have q3 : ((cutH hs a).take i).length ≤ (cutH hs a).length := by rw [List.length_take]; exact Nat.min_le_right _ _
        have q4 : 101 < sizeLine := by decide
        omega
      refine putG m2B s5.i hkl fun H6 s6 m6 => ?_
      have hfr : putK kvs' (Sum.inr v.1) (.ref pr) = kvs' ++ [(Sum.inr v.1, .ref pr)] := hA.fresh (fun y hy => kn_take hck hci y hy) _
      rw [hfr] at m6
      refine hnx _ G5 H6 ⟨_, _, _, rfl, (sA.trans (St.up (s4.trans s5))).trans (s6.sub (by simp)), s6.m _ _ (fun q => hdd (List.mem_singleton.mp q)) (s5.mu (s4.mu mdA)), m6, ?_⟩
      rw [take_more hci]
      exact HD.snoc (hA.mono (s4.trans s5).g) h5
    · rintro od σ' G3 H3 H4 ⟨o4, o5, kvs', rfl, sA, mdA, m2A, hA⟩ s4 m4
      rw [← hcl, List.take_length] at hA
      have m2B := s4.m _ _ (fun q => hdd (List.mem_singleton.mp q).symm) m2A
      have s5 : Stm [d2] G1 H2 G3 H4 := Stm.closeA (sA.trans (s4.sub (by simp))) ms2.d m4
      have s6 : St G0 H G3 H4 := s1.trans (Stm.fresh s2 s5 fun q hq => by rw [List.mem_singleton.mp hq]; exact hd2)
      have ha3 := IsAr.mono _ _ _ _ s6.g ha
      walk_at "go"
      refine ⟨d2, rfl, .inl ⟨kvs', .inl m2B.1⟩, ?_⟩
      walk_at "go"
      refine mkArea (v := .non) rfl (.inl ⟨rfl, rfl⟩) okN_nil s6.i fun pn G5 H5 s7 hn => ?_
      rw [norm_nil] at hn
      have m2C := s7.mu m2B
      refine ⟨_, DGet.k (k := Sum.inr z) m2C.1, ?_⟩
      have hgot : IsAr K G5 ((valV kvs' (Sum.inr z)).getD (.ref pn)) (gotH hs a z) := by
        unfold gotH
        rcases (hA.mono s7.g).val z with ⟨v, c, e1, e2, e3⟩ | ⟨e1, e2⟩
        · rw [e1, e2]; exact e3
        · rw [e1, e2]; exact hn
      refine mA hgot s7.i (by decide +kernel) ?_
      walk_at "go"
      refine ⟨G5, _, _, _, a, rfl, s7.i, hgot, IsAr.mono _ _ _ _ s7.g ha3, f2, fun G6 H6 r6 s8 h6 => ?_⟩
      have h6' := h6
      obtain ⟨pr, dxr, qr, rfl, _, _⟩ := h6'
      walk_at "go"
      have m2D := s8.mu m2C
      have hkl : kvs'.length < sizeLine := by
        have q1 := hA.len
        have q4 : 101 < sizeLine := by decide
        omega
      refine putG m2D s8.i hkl fun H7 s9 m9 => ?_
      walk_at "go"
      have s10 : St G0 H G6 H7 := Stm.fresh (Stm.refl e) ((St.up ((s6.trans s7).trans s8)).trans s9) fun q hq => by rw [List.mem_singleton.mp hq]; exact s1.none hd2 (fun z => nomatch z)
      have msE := ms.st s10
      refine mS msE (by decide +kernel) ?_
      walk_at "go"
      have hP : HD K G6 (putK kvs' (Sum.inr z) (.ref pr)) (preH hs a z) := ((hA.mono s7.g).mono s8.g).put h6
      have hpl : (preH hs a z).length ≤ 100 := by
        have := putH_len (cutH hs a) z (byA (gotH hs a z) a fun a b => a || b)
        unfold preH; omega
      refine ⟨G6, p, d, kvs, d2, _, preH hs a z, rfl, s10.i, msE, m9, hP, putH_kn hck, hpl, f3, fun G8 H8 d' kvs8 s11 ms8 hD8 _ hd' => ?_⟩
      walk_at "go"
      exact k G8 H8 d' kvs8 ((St.up s10).trans s11) ms8 hD8 (s10.none hd' fun z => nomatch z)
end
end GT

/-! ## PN -/
set_option Elab.async false
set_option linter.all false
set_option maxRecDepth 100000
set_option maxHeartbeats 400000
namespace GT
open PySem PySem.Spec PyProof.Rows L2 G
local macro_rules | `(tactic| walk_at "ex") => `(tactic| first | exact Ex.refl _ | assumption | exact Stm.g (by assumption) | (refine Ex.trans ?_ (Stm.g (by assumption)); walk_at "ex"))
local macro_rules | `(tactic| walk_at "st") => `(tactic| first | exact Stm.refl (by assumption) | assumption | (refine Stm.trans ?_ (by assumption); walk_at "st"))
local macro_rules | `(tactic| walk_at "i") => `(tactic| first | assumption | exact Stm.i (by assumption))
local macro_rules | `(tactic| walk_at "fact") => `(tactic| first | rfl | exact (rfl : V.non = optV none) | exact (rfl : V.int _ = optV (some _)) | assumption)
local macro_rules | `(tactic| walk_at "g") => `(tactic| first
  | with_reducible refine x_seq ?_
  | with_reducible refine x_next ?_
  | with_reducible refine x_asg ?_
  | with_reducible refine x_ret ?_
  | with_reducible refine x_retN ?_
  | with_reducible refine x_drop ?_
  | with_reducible refine x_ifs ?_
  | ((with_reducible refine' x_var ?hv ?_); (case hv => exact rfl))
  | with_reducible refine x_c ?_
  | with_reducible refine x_op ?_
  | with_reducible refine x_un ?_
  | with_reducible refine x_test ?_
  | with_reducible refine x_B ?_
  | with_reducible refine x_bl ?_
  | with_reducible refine x_and ?_
  | with_reducible refine x_or ?_
  | with_reducible refine x_not ?_
  | with_reducible refine x_andV ?_
  | with_reducible refine x_orV ?_
  | with_reducible refine x_notV ?_
  | with_reducible refine x_ife ?_
  | with_reducible refine x_isN ?_
  | with_reducible refine x_notN ?_
  | with_reducible refine x_nil ?_
  | with_reducible refine x_cons ?_
  | with_reducible refine x_cb ?_
  | with_reducible refine x_call ?_
  | ((with_reducible refine' x_callL ?hv ?_); (case hv => exact rfl))
  | with_reducible refine x_gname ?_
  | with_reducible refine x_I0 ?_
  | ((with_reducible refine' x_eq ?hv ?_); (case hv => exact rfl))
  | ((with_reducible refine' x_ne ?hv ?_); (case hv => exact rfl))
  | with_reducible refine x_tupG ?_
  | with_reducible refine x_lstG ?_
  | with_reducible refine x_lc ?_
  | (with_reducible refine x_U ?_)
  | ((with_reducible refine' ite_T ?hv ?_); (case hv => exact rfl))
  | ((with_reducible refine' ite_F ?hv ?_); (case hv => exact rfl))
  | with_reducible refine x_for ?_
  | with_reducible refine x_iEnum ?_
  | with_reducible refine x_iList ?_
  | with_reducible refine x_iTup ?_
  | with_reducible refine x_gcons ?_
  | with_reducible refine x_gnil ?_
  | with_reducible refine x_bm ?_
  | with_reducible refine x_fldG ?_
  | with_reducible refine x_meth ?_
  | with_reducible refine x_sl ?_
  | with_reducible refine x_nopart ?_
  | with_reducible refine x_part ?_
  | with_reducible refine x_int ?_
  | with_reducible refine x_yes ?_
  | with_reducible refine x_isNG ?_
  | with_reducible refine x_notNG ?_
  | fail "no step")
local macro_rules | `(tactic| walk_at "g2") => `(tactic| first
  | with_reducible refine x_sfld ?_
  | with_reducible refine x_make ?_
  | with_reducible refine x_dnew ?_
  | with_reducible refine x_lcT ?_
  | with_reducible refine x_lcS ?_
  | with_reducible refine x_disp ?_
  | with_reducible refine x_pcons ?_
  | with_reducible refine x_pnil ?_
  | with_reducible refine x_dnewK ?_
  | with_reducible refine x_dput ?_
  | with_reducible refine x_gsub ?_
  | with_reducible refine x_dget2 ?_
  | with_reducible refine x_litems ?_
  | with_reducible refine x_bmX ?_
  | with_reducible refine x_ckw ?_
  | with_reducible refine L2Z.x_methS ?_
  | with_reducible refine L2Z.x_methN ?_
  | with_reducible refine x_callSD ?_
  | with_reducible refine x_lcZ ?_
  | walk_at "g")
local macro_rules | `(tactic| walk_at "go") => `(tactic| repeat' walk_at "g2")

section
variable {P : Program} {w : World} {K : PySem.W.Frag} {mg : Str → Option Value} {base : Heap}
def sp_Sheet_value (K : PySem.W.Frag) : Sp := fun vs H Q E => ∃ G p d kvs hs x b, vs = [.ref p, x] ∧ Ex G H ∧ MuS K G H p d kvs ∧ HD K G kvs hs ∧ hs.length ≤ 100 ∧ szH hs = true ∧ CellT K G x b ∧
  (b = false → ∀ G1 H1, St G H G1 H1 → E (.ref (He.ga K "NoCell")) none H1) ∧
  (b = true → ∃ c r k z, x = .ref c ∧ G c = some (.tup [.int r, .int k]) ∧ 1 ≤ r ∧ 1 ≤ k ∧ (valH hs r k).head? = some z ∧ ∀ G1 H1, St G H G1 H1 → Q (.str z) H1)
theorem sc_Sheet_value : FnScope ["self", "cell", "value", "area"] ["self", "cell"] (defScope s_Sheet_value) := ⟨rfl, rfl, rfl, by decide +kernel, rfl, by decide +kernel, by decide +kernel⟩
theorem ok_Sheet_value (T : TX K mg) : FnOk P w K mg base (L2N.CX P w) 7 (f_Sheet_value K) (fdO K (f_Sheet_value K)) ["self", "cell"] (sp_Sheet_value K) := by
  refine (F_Sheet_value T).ok sc_Sheet_value (fun vs H Q E h => ?_) (fun cdv A outer s H vs Q E hr h => ?_)
  · obtain ⟨_, _, _, _, _, _, _, rfl, _⟩ := h; rfl
  · obtain ⟨G0, p, d, kvs, hs, x, b, rfl, e, ms, hD, hz, hsz, hc, k1, k2⟩ := h
    have hz' : hs.length < sizeLine := Nat.lt_of_le_of_lt hz (by decide)
    refine ⟨_, (pss_cons (ps_expr (pe_call (ok_checked_cell T) (hr.mono (by decide)) (by rfl) (g_checked_cell T) (F_checked_cell T).kp (b_checked_cell T) .nil (passE (L2N.takes_of rfl rfl rfl rfl)) (pa_cons (pv 1) pa_nil)))
      (pss_one (ps_ret (pe_ix (ixLK (K := K) (by rfl)) (pe_lock (pe_lc (own := [("value", 2), ("area", 3)]) (g := gTup K 2 (gCons (gName 2) (gCons (gName 3) gNil))) (by rfl) sc_Sheet_value.nd (pi_items (fldK (K := K) (pv 0) (by rfl) (by rfl))) (blkOk_by (own := [("value", 2), ("area", 3)]) (N := ["self", "cell", "value", "area"]) (sc := defScope s_Sheet_value) (by decide +kernel)) (fun _ _ _ _ _ => (pg_tup (by rfl) (pgs_cons (pg_name (i := 2) sc_Sheet_value.nd rfl (by first | exact Or.inl rfl | exact Or.inr rfl)) (pgs_cons (pg_name (i := 3) sc_Sheet_value.nd rfl (by first | exact Or.inl rfl | exact Or.inr rfl)) pgs_nil)))) (fun _ _ _ _ _ => (pts_one (pt_val (pe_meth (pv 3) (k_Area T) (m_Area_has T) (ok_Area_has T) (hr.mono (by decide)) (b_Area_has T) .nil pass0 (pa_cons (pv 1) pa_nil))))) (fun _ _ _ _ _ => (pv 2)))) pe_int (fun _ _ => rfl))))), ?_⟩
    walk_at "go"
    refine ⟨G0, x, b, rfl, e, hc, fun hb G1 H1 s1 => ?_, fun hb G1 H1 s1 => k1 hb _ _ s1⟩
    obtain ⟨c, r, k, z, rfl, hcc, hr1, hk1, hv, q⟩ := k2 hb
    walk_at "go"
    have ms1 := ms.st s1
    refine lcI (S := IsS) IsS.mono (d := d) (fun H' R hH h => ?_) ms1.d (hD.mono s1.g) s1.i hz' (fun h => h.2.any fun b => hasB b r k) (fun h => h.1) (fun y w' Tt G2 H2 N0 N1 hy eg ei hw hT n0 n1 => ?_) fun G2 H2 D s2 hL => ?_
    · obtain ⟨dx, m⟩ := ms1.o
      walk_at "go"
      exact fldG (by rw [hH p ms1.ne]; exact m.1) (k_Sheet T) (n_Sheet_held T) (shF_held d) h
    · refine x_gtup (ei _ _ hT) rfl ?_
      walk_at "go"
      refine ⟨rfl, ?_⟩
      walk_at "go"
      refine mA hw ei (by decide +kernel) ?_
      walk_at "go"
      have hsl : y.2.length ≤ 1500 := of_decide_eq_true (List.all_eq_true.mp hsz y hy)
      refine ⟨G2, _, y.2, c, r, k, rfl, ei, hw, hsl, eg _ _ (s1.g _ _ hcc), hr1, hk1, fun G3 H3 s3 => ?_⟩
      refine ⟨_, rfl, ite_b2 (fun h1 => ?_) (fun h1 => ?_)⟩
      · walk_at "go"
        exact n1 _ _ _ s3 rfl h1
      · exact n0 _ _ s3 h1
    · walk_at "go"
      have hv' : (valH hs r k)[0]? = some z := by rw [← List.head?_eq_getElem?]; exact hv
      refine x_ixL (j := 0) hL s2.i hv' rfl fun w2 hw2 => ?_
      cases hw2
      walk_at "go"
      exact q _ _ (s1.trans s2)
def sp_Sheet_where (K : PySem.W.Frag) : Sp := fun vs H Q E => ∃ G p d kvs hs y b, vs = [.ref p, y] ∧ Ex G H ∧ MuS K G H p d kvs ∧ HD K G kvs hs ∧ ValT K G y b ∧
  (b = false → ∀ G1 H1, St G H G1 H1 → E (.ref (He.ga K "NoValue")) none H1) ∧
  (∀ z, y = .str z → b = true → ∀ G1 H1 r, St G H G1 H1 → IsAr K G1 r ((getH hs z).getD []) → Q r H1)
theorem sc_Sheet_where : FnScope ["self", "value"] ["self", "value"] (defScope s_Sheet_where) := ⟨rfl, rfl, rfl, by decide +kernel, rfl, by decide +kernel, by decide +kernel⟩
theorem ok_Sheet_where (T : TX K mg) : FnOk P w K mg base (L2N.CX P w) 9 (f_Sheet_where K) (fdO K (f_Sheet_where K)) ["self", "value"] (sp_Sheet_where K) := by
  refine (F_Sheet_where T).ok sc_Sheet_where (fun vs H Q E h => ?_) (fun cdv A outer s H vs Q E hr h => ?_)
  · obtain ⟨_, _, _, _, _, _, _, rfl, _⟩ := h; rfl
  · obtain ⟨G0, p, d, kvs, hs, y, b, rfl, e, ms, hD, hy, k1, k2⟩ := h
    have hu : (A.deeper (envOfC (Str.ofString "Sheet.where") (defScope s_Sheet_where) s.heap.objs.size (f_Sheet_where K) cdv)).units + 1 < cLine := by have := hr.un; omega
    refine ⟨_, (pss_cons (ps_expr (pe_call (ok_check_value T) (hr.mono (by decide)) (by rfl) (g_check_value T) (F_check_value T).kp (b_check_value T) .nil (passE (L2N.takes_of rfl rfl rfl rfl)) (pa_cons (pv 1) pa_nil)))
      (pss_one (ps_ret (pe_dget2 hu (fldK (K := K) (pv 0) (by rfl) (by rfl)) (pv 1) (pe_make0 (mk_Area T) (ok_Area___init__ T) (hr.mono (by decide)) (by rfl) (g_Area T) (b_Area___init___1 T).choose_spec.2 (b_Area___init___1 T).choose_spec.1 pass0) (by constructor <;> rfl))))), ?_⟩
    walk_at "go"
    refine ⟨G0, y, b, rfl, e, hy, fun hb G1 H1 s1 => ?_, fun hb G1 H1 s1 => k1 hb _ _ s1⟩
    rcases hy with ⟨rfl, _⟩ | ⟨z, rfl, hz, _⟩
    · cases hb
    walk_at "go"
    have ms1 := ms.st s1
    refine fS_held T ms1 ?_
    refine ⟨d, rfl, .inl ⟨kvs, .inl ms1.d.1⟩, ?_⟩
    walk_at "go"
    refine mkArea (v := .non) rfl (.inl ⟨rfl, rfl⟩) okN_nil s1.i fun pn G5 H5 s7 hn => ?_
    rw [norm_nil] at hn
    have ms5 := ms1.st s7
    refine ⟨_, DGet.k (k := Sum.inr z) ms5.d.1, ?_⟩
    refine k2 z rfl hb G5 H5 _ (s1.trans s7) ?_
    rcases ((hD.mono s1.g).mono s7.g).val z with ⟨v, c, e1, e2, e3⟩ | ⟨e1, e2⟩
    · rw [e1, e2]; exact e3
    · rw [e1, e2]; exact hn
end
end GT

/-! ## GMu -/
set_option Elab.async false
set_option linter.all false
set_option maxRecDepth 100000
namespace G
open PySem PySem.Spec PyProof.Rows L2
/-! ### sorted lists that may be changed behind -/
open Classical in
theorem sortLM {α : Type} [Inhabited α] {R : Rp α} {kx : α → Int × Int} {K : PySem.W.Frag} {f : Addr} {G H : Hp} {v : V} {xs : List α} {Q : VK} (mR : Mono R) (un : ∀ v a b, R G v a → R G v b → a = b) (hx : IsL R G v xs) (e : Ex G H)
    (h : ∀ H1 p ws zs, H p = none → St G H G H1 → Mu G H1 p (.lst ws) → Paired (R G) ws zs → zs.Perm xs → zs.Pairwise (fun x y => lexLe (kx x) (kx y)) → Q (.ref p) H1) : rSortKE K f (GoodR R kx) [v] [.ref f] H Q := by
  obtain ⟨p0, ws, rfl, hp, hr⟩ := hx
  have ex : ∀ x ∈ ws, ∃ a, R G x a := fun x hx => paired_all hr x hx
  let fv : V → α := fun v => if h : ∃ a, R G v a then h.choose else default
  have hfv : ∀ v a, R G v a → fv v = a := fun v a ha => by
    have hex : ∃ a, R G v a := ⟨a, ha⟩
    show (if h : ∃ a, R G v a then h.choose else default) = a
    rw [dif_pos hex]
    exact un v _ _ hex.choose_spec ha
  have hall : ∀ x ∈ ws, R G x (fv x) := fun x hx => by
    obtain ⟨y, hy⟩ := ex x hx
    rw [hfv x y hy]; exact hy
  refine ⟨fun v => kx (fv v), p0, ws, rfl, rfl, sq (e _ _ hp), fun x hx => ⟨fv x, mR _ _ _ _ e (hall x hx), rfl⟩, fun ys H' p hperm hord hE hpn hpl => ?_⟩
  have s : St G H G H' := ⟨Ex.refl G, fun a u q => hE _ _ (e _ _ q), fun q u _ m => ⟨hE _ _ m.1, m.2⟩⟩
  refine h H' p ys (ys.map fv) hpn s ⟨hpl, e.none hpn⟩ (paired_self fun x hx => hall x (hperm.mem_iff.mp hx)) ?_ ?_
  · rw [paired_map hr hfv]; exact hperm.map _
  · rw [List.pairwise_map]
    exact hord.imp fun {a b} q => lexB_le q
theorem toldGM {K : PySem.W.Frag} {G H : Hp} {a : Addr} {kvs : List (Key × V)} {hs : Hs} {Q : VK} (h : HD K G kvs hs) (m : Mu G H a (.dK kvs)) (e : Ex G H) (hz : hs.length < 64) (q : ∀ H1 p ys, H p = none → St G H G H1 → ys.Perm (hs.map (·.1)) → sortedS ys = true → Mu G H1 p (.lst (ys.map V.str)) → Q (.ref p) H1) : rSortD [.ref a] H Q := by
  refine ⟨a, kvs, hs.map (·.1), rfl, .inl m.1, h.keys, by rw [List.length_map]; exact hz, fun ys p hp hs' hn => ?_⟩
  obtain ⟨s, mp⟩ := almF (o := .lst (ys.map V.str)) hn e
  exact q _ p ys hn s hp hs' mp
end G

/-! ## PO -/
set_option Elab.async false
set_option linter.all false
set_option maxRecDepth 100000
set_option maxHeartbeats 400000
namespace GT
open PySem PySem.Spec PyProof.Rows L2 G
local macro_rules | `(tactic| walk_at "ex") => `(tactic| first | exact Ex.refl _ | assumption | exact Stm.g (by assumption) | (refine Ex.trans ?_ (Stm.g (by assumption)); walk_at "ex"))
local macro_rules | `(tactic| walk_at "st") => `(tactic| first | exact Stm.refl (by assumption) | assumption | (refine Stm.trans ?_ (by assumption); walk_at "st"))
local macro_rules | `(tactic| walk_at "i") => `(tactic| first | assumption | exact Stm.i (by assumption))
local macro_rules | `(tactic| walk_at "fact") => `(tactic| first | rfl | exact (rfl : V.non = optV none) | exact (rfl : V.int _ = optV (some _)) | assumption)
local macro_rules | `(tactic| walk_at "g") => `(tactic| first
  | with_reducible refine x_seq ?_
  | with_reducible refine x_next ?_
  | with_reducible refine x_asg ?_
  | with_reducible refine x_ret ?_
  | with_reducible refine x_retN ?_
  | with_reducible refine x_drop ?_
  | with_reducible refine x_ifs ?_
  | ((with_reducible refine' x_var ?hv ?_); (case hv => exact rfl))
  | with_reducible refine x_c ?_
  | with_reducible refine x_op ?_
  | with_reducible refine x_un ?_
  | with_reducible refine x_test ?_
  | with_reducible refine x_B ?_
  | with_reducible refine x_bl ?_
  | with_reducible refine x_and ?_
  | with_reducible refine x_or ?_
  | with_reducible refine x_not ?_
  | with_reducible refine x_andV ?_
  | with_reducible refine x_orV ?_
  | with_reducible refine x_notV ?_
  | with_reducible refine x_ife ?_
  | with_reducible refine x_isN ?_
  | with_reducible refine x_notN ?_
  | with_reducible refine x_nil ?_
  | with_reducible refine x_cons ?_
  | with_reducible refine x_cb ?_
  | with_reducible refine x_call ?_
  | ((with_reducible refine' x_callL ?hv ?_); (case hv => exact rfl))
  | with_reducible refine x_gname ?_
  | with_reducible refine x_I0 ?_
  | ((with_reducible refine' x_eq ?hv ?_); (case hv => exact rfl))
  | ((with_reducible refine' x_ne ?hv ?_); (case hv => exact rfl))
  | with_reducible refine x_tupG ?_
  | with_reducible refine x_lstG ?_
  | with_reducible refine x_lc ?_
  | (with_reducible refine x_U ?_)
  | ((with_reducible refine' ite_T ?hv ?_); (case hv => exact rfl))
  | ((with_reducible refine' ite_F ?hv ?_); (case hv => exact rfl))
  | with_reducible refine x_for ?_
  | with_reducible refine x_iEnum ?_
  | with_reducible refine x_iList ?_
  | with_reducible refine x_iTup ?_
  | with_reducible refine x_gcons ?_
  | with_reducible refine x_gnil ?_
  | with_reducible refine x_bm ?_
  | with_reducible refine x_fldG ?_
  | with_reducible refine x_meth ?_
  | with_reducible refine x_sl ?_
  | with_reducible refine x_nopart ?_
  | with_reducible refine x_part ?_
  | with_reducible refine x_int ?_
  | with_reducible refine x_yes ?_
  | with_reducible refine x_isNG ?_
  | with_reducible refine x_notNG ?_
  | fail "no step")
local macro_rules | `(tactic| walk_at "g2") => `(tactic| first
  | with_reducible refine x_sfld ?_
  | with_reducible refine x_make ?_
  | with_reducible refine x_dnew ?_
  | with_reducible refine x_lcT ?_
  | with_reducible refine x_lcS ?_
  | with_reducible refine x_disp ?_
  | with_reducible refine x_pcons ?_
  | with_reducible refine x_pnil ?_
  | with_reducible refine x_dnewK ?_
  | with_reducible refine x_dput ?_
  | with_reducible refine x_gsub ?_
  | with_reducible refine x_dget2 ?_
  | with_reducible refine x_litems ?_
  | with_reducible refine x_bmX ?_
  | with_reducible refine x_ckw ?_
  | with_reducible refine L2Z.x_methS ?_
  | with_reducible refine L2Z.x_methN ?_
  | with_reducible refine x_callSD ?_
  | with_reducible refine x_lcZ ?_
  | walk_at "g")
local macro_rules | `(tactic| walk_at "go") => `(tactic| repeat' walk_at "g2")

section
variable {P : Program} {w : World} {K : PySem.W.Frag} {mg : Str → Option Value} {base : Heap}
/-- == of two sheets that hold the same things -/
def sp_Sheet_eq (K : PySem.W.Frag) : Sp := fun vs H Q _ => ∃ G p d q d2 kvs hs, vs = [.ref p, .ref q] ∧ Ex G H ∧ MuS K G H p d kvs ∧ MuS K G H q d2 kvs ∧ HD K G kvs hs ∧ kn hs ∧ Q (.bl true) H
theorem sc_Sheet___eq__ : FnScope ["self", "other"] ["self", "other"] (defScope s_Sheet___eq__) := ⟨rfl, rfl, rfl, by decide +kernel, rfl, by decide +kernel, by decide +kernel⟩
theorem ok_Sheet___eq__ (T : TX K mg) : FnOk P w K mg base CX0 1 (f_Sheet___eq__ K) (fdO K (f_Sheet___eq__ K)) ["self", "other"] (sp_Sheet_eq K) := by
  refine (F_Sheet___eq__ T).ok sc_Sheet___eq__ (fun vs H Q E h => ?_) (fun cdv A outer s H vs Q E hr h => ?_)
  · obtain ⟨_, _, _, _, _, _, _, rfl, _⟩ := h; rfl
  · obtain ⟨G0, p, d, q, d2, kvs, hs, rfl, e, ms, ms2, hD, hk, k⟩ := h
    refine ⟨_, PSs.nox (pss_one (ps_ret (pe_and (pe_callB (isiK (K := K) (by rfl)) (by rfl) (z_isinstance T) PyProof.Rows.boot_isinstance (pa_cons (pv 1) (pa_cons (pe_glob (v := .ref (He.ga K "Sheet")) (by rfl) (g_Sheet T) rfl) pa_nil))) (pe_one (pe_cmpR (eqVK (K := K) (by have := hr.un; show _ + 64 < cLine; exact Nat.lt_of_succ_lt (lt65 hr)) (by rfl)) (fldK (K := K) (pv 0) (by rfl) (by rfl)) (fldK (K := K) (pv 1) (by rfl) (by rfl)) (nomark _)))))), ?_⟩
    walk_at "go"
    obtain ⟨dx2, m2⟩ := ms2.o
    refine isiG (.own _) (t_Sheet T m2.1) (i_Sheet_Sheet T) ?_
    walk_at "go"
    refine fS_held T ms ?_
    walk_at "go"
    refine fS_held T ms2 ?_
    exact eqHeld hD hk ms.d.1 ms2.d.1 k
def sp_Sheet_told (K : PySem.W.Frag) : Sp := fun vs H Q _ => ∃ G p d kvs hs, vs = [.ref p] ∧ Ex G H ∧ MuS K G H p d kvs ∧ HD K G kvs hs ∧ hs.length < 64 ∧
  ∀ H1 r ys, H r = none → St G H G H1 → ys.Perm (hs.map (·.1)) → sortedS ys = true → Mu G H1 r (.lst (ys.map V.str)) → Q (.ref r) H1
theorem sc_Sheet_told : FnScope ["self"] ["self"] (defScope s_Sheet_told) := ⟨rfl, rfl, rfl, by decide +kernel, rfl, by decide +kernel, by decide +kernel⟩
theorem ok_Sheet_told (T : TX K mg) : FnOk P w K mg base CX0 1 (f_Sheet_told K) (fdO K (f_Sheet_told K)) ["self"] (sp_Sheet_told K) := by
  refine (F_Sheet_told T).ok sc_Sheet_told (fun vs H Q E h => ?_) (fun cdv A outer s H vs Q E hr h => ?_)
  · obtain ⟨_, _, _, _, _, rfl, _⟩ := h; rfl
  · obtain ⟨G0, p, d, kvs, hs, rfl, e, ms, hD, hz, k⟩ := h
    refine ⟨_, PSs.nox (pss_one (ps_ret (pe_callB (sortD rfl) (by rfl) (z_sorted T) (by decide +kernel) (pa_cons (fldK (K := K) (pv 0) (by rfl) (by rfl)) pa_nil)))), ?_⟩
    walk_at "go"
    refine fS_held T ms ?_
    walk_at "go"
    exact toldGM hD ms.d e hz k
abbrev IsPr (K : PySem.W.Frag) : Rp (Blk × Str) := IsT2 (IsBlk K) IsS
theorem IsPr.mono : Mono (IsPr K) := IsT2.mono IsBlk.mono IsS.mono
def pkey (x : Blk × Str) : Int × Int := (x.1.t, x.1.l)
def spFirst (K : PySem.W.Frag) : Sp := fun vs H Q E => ∃ key, SpKey (GoodR (IsBlk K) bkey key) key vs H Q E
theorem ok_first_cellE (T : TX K mg) : FnOk P w K mg base CX0 1 (f_first_cell K) (fdO K (f_first_cell K)) ["block"] (spFirst K) :=
  ⟨fun vs H Q E ⟨key, h⟩ => (ok_first_cell (P := P) (w := w) (base := base) key T).len vs H Q E h, fun A outer s H args us vs Q E hr he hb hv ⟨key, h⟩ => (ok_first_cell key T).run A outer s H args us vs Q E hr he hb hv h⟩
theorem sc_first_of_part : FnScope ["part"] ["part"] (defScope s_first_of_part) := ⟨rfl, rfl, rfl, by decide +kernel, rfl, by decide +kernel, by decide +kernel⟩
variable (key : V → Int × Int) in
theorem ok_first_of_part (T : TX K mg) : FnOk P w K mg base CX0 2 (f_first_of_part K) (fdO K (f_first_of_part K)) ["part"] (SpKey (GoodR (IsPr K) pkey key) key) := by
  refine (F_first_of_part T).ok sc_first_of_part (fun vs H Q E h => ?_) (fun cdv A outer s H vs Q E hr h => ?_)
  · obtain ⟨_, rfl, _⟩ := h; rfl
  · obtain ⟨x, rfl, ⟨b, hb, ek⟩, k⟩ := h
    refine ⟨_, PSs.nox (pss_one (ps_ret (pe_call (ok_first_cellE T) (hr.mono (by decide)) (by rfl) (g_first_cell T) (F_first_cell T).kp (b_first_cell T) .nil pass0 (pa_cons (pe_ix (ixTK (K := K) (by rfl)) (pv 0) pe_int (fun _ _ => rfl)) pa_nil)))), ?_⟩
    walk_at "go"
    refine x_ixT0 hb (Ex.refl H) fun w1 hw1 => ?_
    walk_at "go"
    refine ⟨fun _ => (b.1.t, b.1.l), w1, rfl, ⟨b.1, hw1, rfl⟩, fun H' t ex ht => ?_⟩
    refine k H' t ex ?_
    rw [ek]; exact ht
end
end GT

/-! ## PP -/
set_option Elab.async false
set_option linter.all false
set_option maxRecDepth 100000
set_option maxHeartbeats 400000
namespace GT
open PySem PySem.Spec PyProof.Rows L2 G
local macro_rules | `(tactic| walk_at "ex") => `(tactic| first | exact Ex.refl _ | assumption | exact Stm.g (by assumption) | (refine Ex.trans ?_ (Stm.g (by assumption)); walk_at "ex"))
local macro_rules | `(tactic| walk_at "st") => `(tactic| first | exact Stm.refl (by assumption) | assumption | (refine Stm.trans ?_ (by assumption); walk_at "st"))
local macro_rules | `(tactic| walk_at "i") => `(tactic| first | assumption | exact Stm.i (by assumption))
local macro_rules | `(tactic| walk_at "fact") => `(tactic| first | rfl | exact (rfl : V.non = optV none) | exact (rfl : V.int _ = optV (some _)) | assumption)
local macro_rules | `(tactic| walk_at "g") => `(tactic| first
  | with_reducible refine x_seq ?_
  | with_reducible refine x_next ?_
  | with_reducible refine x_asg ?_
  | with_reducible refine x_ret ?_
  | with_reducible refine x_retN ?_
  | with_reducible refine x_drop ?_
  | with_reducible refine x_ifs ?_
  | ((with_reducible refine' x_var ?hv ?_); (case hv => exact rfl))
  | with_reducible refine x_c ?_
  | with_reducible refine x_op ?_
  | with_reducible refine x_un ?_
  | with_reducible refine x_test ?_
  | with_reducible refine x_B ?_
  | with_reducible refine x_bl ?_
  | with_reducible refine x_and ?_
  | with_reducible refine x_or ?_
  | with_reducible refine x_not ?_
  | with_reducible refine x_andV ?_
  | with_reducible refine x_orV ?_
  | with_reducible refine x_notV ?_
  | with_reducible refine x_ife ?_
  | with_reducible refine x_isN ?_
  | with_reducible refine x_notN ?_
  | with_reducible refine x_nil ?_
  | with_reducible refine x_cons ?_
  | with_reducible refine x_cb ?_
  | with_reducible refine x_call ?_
  | ((with_reducible refine' x_callL ?hv ?_); (case hv => exact rfl))
  | with_reducible refine x_gname ?_
  | with_reducible refine x_I0 ?_
  | ((with_reducible refine' x_eq ?hv ?_); (case hv => exact rfl))
  | ((with_reducible refine' x_ne ?hv ?_); (case hv => exact rfl))
  | with_reducible refine x_tupG ?_
  | with_reducible refine x_lstG ?_
  | with_reducible refine x_lc ?_
  | (with_reducible refine x_U ?_)
  | ((with_reducible refine' ite_T ?hv ?_); (case hv => exact rfl))
  | ((with_reducible refine' ite_F ?hv ?_); (case hv => exact rfl))
  | with_reducible refine x_for ?_
  | with_reducible refine x_iEnum ?_
  | with_reducible refine x_iList ?_
  | with_reducible refine x_iTup ?_
  | with_reducible refine x_gcons ?_
  | with_reducible refine x_gnil ?_
  | with_reducible refine x_bm ?_
  | with_reducible refine x_fldG ?_
  | with_reducible refine x_meth ?_
  | with_reducible refine x_sl ?_
  | with_reducible refine x_nopart ?_
  | with_reducible refine x_part ?_
  | with_reducible refine x_int ?_
  | with_reducible refine x_yes ?_
  | with_reducible refine x_isNG ?_
  | with_reducible refine x_notNG ?_
  | fail "no step")
local macro_rules | `(tactic| walk_at "g2") => `(tactic| first
  | with_reducible refine x_sfld ?_
  | with_reducible refine x_make ?_
  | with_reducible refine x_dnew ?_
  | with_reducible refine x_lcT ?_
  | with_reducible refine x_lcS ?_
  | with_reducible refine x_disp ?_
  | with_reducible refine x_pcons ?_
  | with_reducible refine x_pnil ?_
  | with_reducible refine x_dnewK ?_
  | with_reducible refine x_dput ?_
  | with_reducible refine x_gsub ?_
  | with_reducible refine x_dget2 ?_
  | with_reducible refine x_litems ?_
  | with_reducible refine x_bmX ?_
  | with_reducible refine x_ckw ?_
  | with_reducible refine L2Z.x_methS ?_
  | with_reducible refine L2Z.x_methN ?_
  | with_reducible refine x_callSD ?_
  | with_reducible refine x_lcZ ?_
  | walk_at "g")
local macro_rules | `(tactic| walk_at "go") => `(tactic| repeat' walk_at "g2")

section
variable {P : Program} {w : World} {K : PySem.W.Frag} {mg : Str → Option Value} {base : Heap}
/-! ### the pairs of a sheet, with their blocks' own references -/
abbrev Zs := List (Str × List Blk × List V)
def HB (K : PySem.W.Frag) (G : Hp) (kvs : List (Key × V)) (zs : Zs) : Prop := Paired (fun kv z => kv.1 = Sum.inr z.1 ∧ ∃ a dx q, kv.2 = .ref a ∧ G a = some (.ins (He.ga K "Area") dx (arF q)) ∧ G q = some (.lst z.2.2) ∧ Paired (IsBlk K G) z.2.2 z.2.1) kvs zs
def zh (zs : Zs) : Hs := zs.map fun z => (z.1, z.2.1)
theorem HB.mono {G G' : Hp} {kvs : List (Key × V)} {zs : Zs} (h : HB K G kvs zs) (e : Ex G G') : HB K G' kvs zs := paired_imp (fun _ _ ⟨h1, a, dx, q, h2, h3, h4, h5⟩ => ⟨h1, a, dx, q, h2, e _ _ h3, e _ _ h4, paired_imp (fun a b q => IsBlk.mono _ _ a b e q) h5⟩) h
theorem HB.hd {G : Hp} : ∀ {kvs : List (Key × V)} {zs : Zs}, HB K G kvs zs → HD K G kvs (zh zs)
  | _, _, .nil => .nil
  | _, _, .cons ⟨h1, a, dx, q, h2, h3, h4, h5⟩ t => .cons ⟨h1, a, dx, q, h2, h3, q, _, rfl, h4, h5⟩ (HB.hd t)
theorem HD.hb {G : Hp} : ∀ {kvs : List (Key × V)} {hs : Hs}, HD K G kvs hs → ∃ zs, HB K G kvs zs ∧ zh zs = hs
  | _, _, .nil => ⟨[], .nil, rfl⟩
  | _, _, .cons (a := kv) (b := h) ⟨h1, a, dx, q, h2, h3, q', ws, e, h4, h5⟩ t => by
    obtain ⟨zs, hz, ez⟩ := HD.hb t
    cases e
    exact ⟨(h.1, h.2, ws) :: zs, .cons ⟨h1, a, dx, q, h2, h3, h4, h5⟩ hz, by show (h.1, h.2) :: zh zs = _; rw [ez]⟩
def IsPrR (K : PySem.W.Frag) : Rp (Blk × Str × V) := fun G v z => ∃ t, v = .ref t ∧ G t = some (.tup [z.2.2, .str z.2.1]) ∧ IsBlk K G z.2.2 z.1
theorem IsPrR.mono : Mono (IsPrR K) := fun _ _ _ _ e ⟨t, h1, h2, h3⟩ => ⟨t, h1, e _ _ h2, IsBlk.mono _ _ _ _ e h3⟩
theorem IsPrR.un {G : Hp} (v : V) (a b : Blk × Str × V) (h1 : IsPrR K G v a) (h2 : IsPrR K G v b) : a = b := by
  obtain ⟨t, rfl, g1, b1⟩ := h1
  obtain ⟨t', e, g2, b2⟩ := h2
  cases e
  rw [g1] at g2
  obtain ⟨a1, a2, a3⟩ := a
  obtain ⟨c1, c2, c3⟩ := b
  simp only [Option.some.injEq, HO.tup.injEq, List.cons.injEq, V.str.injEq, and_true] at g2
  obtain ⟨rfl, rfl⟩ := g2
  exact congrArg (fun z => (z, a2, a3)) (IsBlk.un _ _ _ b1 b2)
instance : Inhabited (Blk × Str × V) := ⟨(default, Str.empty, .non)⟩
def rkey (x : Blk × Str × V) : Int × Int := (x.1.t, x.1.l)
theorem ok_first_of_partR (T : TX K mg) (key : V → Int × Int) : FnOk P w K mg base CX0 2 (f_first_of_part K) (fdO K (f_first_of_part K)) ["part"] (SpKey (GoodR (IsPrR K) rkey key) key) :=
  FnOk.imp (ok_first_of_part key T) fun vs H Q E ⟨x, h1, ⟨a, ⟨t, e1, e2, e3⟩, ek⟩, k⟩ => ⟨x, h1, ⟨(a.1, a.2.1), ⟨t, _, _, e1, e2, e3, rfl⟩, ek⟩, k⟩
def partZ (z : Str × List Blk × List V) : List (Blk × Str × V) := if z.1 = Str.ofString "" then [] else (z.2.1.zip z.2.2).map fun q => (q.1, z.1, q.2)
def rawZ (zs : Zs) : List (Blk × Str × V) := zs.flatMap partZ
abbrev IsBV (K : PySem.W.Frag) : Rp (Blk × V) := fun G v q => IsBlk K G v q.1 ∧ v = q.2
theorem IsBV.mono : Mono (IsBV K) := fun _ _ _ _ e h => ⟨IsBlk.mono _ _ _ _ e h.1, h.2⟩
theorem zip_bv {G : Hp} : ∀ {ws : List V} {bs : List Blk}, Paired (IsBlk K G) ws bs → Paired (IsBV K G) ws (bs.zip ws)
  | _, _, .nil => .nil
  | _, _, .cons r t => .cons ⟨r, rfl⟩ (zip_bv t)
def sp_Sheet_pairs (K : PySem.W.Frag) : Sp := fun vs H Q _ => ∃ G p d kvs zs, vs = [.ref p] ∧ Ex G H ∧ MuS K G H p d kvs ∧ HB K G kvs zs ∧ zs.length ≤ 100 ∧ szH (zh zs) = true ∧
  ∀ G1 H1 r ws ys, H r = none → St G H G1 H1 → Mu G1 H1 r (.lst ws) → Paired (IsPrR K G1) ws ys → ys.Perm (rawZ zs) → ys.Pairwise (fun x y => lexLe (rkey x) (rkey y)) → Q (.ref r) H1
theorem sc_Sheet_pairs : FnScope ["self", "found", "value", "area", "block"] ["self"] (defScope s_Sheet_pairs) := ⟨rfl, rfl, rfl, by decide +kernel, rfl, by decide +kernel, by decide +kernel⟩
theorem ok_Sheet_pairs (T : TX K mg) : FnOk P w K mg base CX0 5 (f_Sheet_pairs K) (fdO K (f_Sheet_pairs K)) ["self"] (sp_Sheet_pairs K) := by
  refine (F_Sheet_pairs T).ok sc_Sheet_pairs (fun vs H Q E h => ?_) (fun cdv A outer s H vs Q E hr h => ?_)
  · obtain ⟨_, _, _, _, _, rfl, _⟩ := h; rfl
  · obtain ⟨G0, p, d, kvs, zs, rfl, e, ms, hB, hz, hsz, k⟩ := h
    refine ⟨_, PSs.nox (pss_cons (ps_set (i := 1) sc_Sheet_pairs.nd rfl (by first | exact Or.inl rfl | exact Or.inr rfl) (pe_lst pa_nil))
      (pss_cons (ps_lock (ps_for PassesOwn.never rfl (pi_items (fldK (K := K) (pv 0) (by rfl) (by rfl))) (pg_tup (by rfl) (pgs_cons (pg_name (i := 2) sc_Sheet_pairs.nd rfl (by first | exact Or.inl rfl | exact Or.inr rfl)) (pgs_cons (pg_name (i := 3) sc_Sheet_pairs.nd rfl (by first | exact Or.inl rfl | exact Or.inr rfl)) pgs_nil))) (pss_one (ps_if (pt_cmpR op_ne (pv 2) pe_str (nomark _)) (pss_one (ps_expr (pe_bm PySem.F.plainAttrs_list PySem.F.slot_list_extend PySem.F.type_list_extend mt_extend (pv 1) (pa_cons (pe_lc (own := [("block", 4)]) (g := gName 4) (by rfl) sc_Sheet_pairs.nd (pi_list (pe_meth0 (pv 3) (k_Area T) (m_Area_blocks T) (ok_Area_blocks T) (hr.mono (by decide)) (b_Area_blocks T) .nil pass0)) (blkOk_by (own := [("block", 4)]) (N := ["self", "found", "value", "area", "block"]) (sc := defScope s_Sheet_pairs) (by decide +kernel)) (fun _ _ _ _ _ => (pg_name (i := 4) sc_Sheet_pairs.nd rfl (by first | exact Or.inl rfl | exact Or.inr rfl))) (fun _ _ _ _ _ => pts_nil) (fun _ _ _ _ _ => (pe_tup (pa_cons (pv 4) (pa_cons (pv 2) pa_nil))))) pa_nil)))) pss_nil))))
      (pss_one (ps_ret (pe_callBK (cr_sortKE (K := K) (ok_first_of_partR T) (b_first_of_part T) (hr.mono (by decide)) (GoodR.mono IsPrR.mono) (by rfl)) (by rfl) (z_sorted T) (by decide +kernel) (pa_cons (pv 1) pa_nil) (pk_cons (pe_glob (v := .ref (He.ga K "first_of_part")) (by rfl) (g_first_of_part T) rfl) pk_nil)))))), ?_⟩
    walk_at "go"
    refine lstM e (Nat.zero_le _) fun pf H1 hpf s1 m1 => ?_
    walk_at "go"
    have ms1 := ms.st s1
    have hzl : (zh zs).length = zs.length := by unfold zh; rw [List.length_map]
    have hdf : d ≠ pf := fun c => by have q := ms.d.1; rw [c, hpf] at q; cases q
    have hbig : 150101 < sizeLine := by decide
    have hraw : ∀ i, (rawZ (zs.take i)).length ≤ 1500 * i := by
      intro i
      induction i with
      | zero => simp [rawZ]
      | succ i ih =>
        cases hzi : zs[i]? with
        | none =>
          have : zs.length ≤ i := List.getElem?_eq_none_iff.mp hzi
          rw [List.take_of_length_le (by omega)]
          rw [List.take_of_length_le (by omega)] at ih
          omega
        | some z =>
          rw [take_more hzi]
          unfold rawZ at ih ⊢
          rw [List.flatMap_append, List.length_append]
          have hm : (z.1, z.2.1) ∈ zh zs := List.mem_map.mpr ⟨z, List.mem_of_getElem? hzi, rfl⟩
          have hl : z.2.1.length ≤ 1500 := of_decide_eq_true (List.all_eq_true.mp hsz _ hm)
          have hp : (partZ z).length ≤ 1500 := by
            unfold partZ
            split
            · exact Nat.zero_le _
            · rw [List.length_map, List.length_zip]
              exact Nat.le_trans (Nat.min_le_left _ _) hl
          have e1 : ([z].flatMap partZ).length = (partZ z).length := by simp
          omega
    refine forI (K := K) (d := d) (kvs := kvs) (hs := zh zs) (fun H' R hH h => ?_) ms1.d (hB.hd) s1.i (fun od i σ' G' H' => ∃ o2 o3 o4 acc, σ' = [some (.ref p), some (.ref pf), o2, o3, o4] ∧ Stm [d, pf] G0 H1 G' H' ∧ Mu G' H' d (.frz od (.dK kvs)) ∧ Mu G' H' pf (.lst acc) ∧ Paired (IsPrR K G') acc (rawZ (zs.take i)))
      (fun od H3 s3 m3 => ⟨none, none, none, [], rfl, s3.sub (by simp), m3, s3.m _ _ (fun q => hdf (List.mem_singleton.mp q).symm) m1, .nil⟩)
      (fun od i σ' G' H' _ ⟨_, _, _, _, _, s, m, _⟩ => ⟨s.g, s.i, m⟩) ?_ ?_
    · obtain ⟨dx, q⟩ := ms1.o
      walk_at "go"
      exact fldG (by rw [hH p ms1.ne]; exact q.1) (k_Sheet T) (n_Sheet_held T) (shF_held d) h
    · rintro od i x w' Tt σ1 G3 H3 G4 H4 D2 hi hki ⟨o2, o3, o4, acc, rfl, sA, mdA, mfA, pA⟩ s4 hw hT hnx
      obtain ⟨z, hzi, hzr⟩ := G.paired_get hB hki
      have hx : x = (z.1, z.2.1) := by
        unfold zh at hi
        rw [List.getElem?_map, hzi] at hi
        exact (Option.some.inj hi).symm
      subst hx
      have eg4 := sA.g.trans s4.g
      obtain ⟨_, a, dx, q, ew, ga, gq, pb⟩ := hzr
      have ew : w' = .ref a := ew
      subst ew
      have hacc : acc.length ≤ 1500 * i := by rw [paired_len pA]; exact hraw i
      have hil : i < zs.length := (List.getElem?_eq_some_iff.mp hzi).1
      have hmore : rawZ (zs.take (i + 1)) = rawZ (zs.take i) ++ partZ z := by
        rw [take_more hzi]; unfold rawZ; rw [List.flatMap_append]; simp
      refine x_gtup (s4.i _ _ hT) rfl ?_
      walk_at "go"
      have e2 : decide (V.str z.1 = V.str (Str.ofString "")) = decide (z.1 = Str.ofString "") := by
        by_cases c : z.1 = Str.ofString ""
        · rw [decide_eq_true c, decide_eq_true (by rw [c])]
        · rw [decide_eq_false c, decide_eq_false fun q => c (V.str.inj q)]
      rw [e2]
      refine ite_b2 (fun c1 => ?_) (fun c1 => ?_)
      · have hne : ¬ z.1 = Str.ofString "" := fun c => by rw [decide_eq_true c] at c1; cases c1
        have mfB := s4.mu mfA
        walk_at "go"
        refine ⟨x_tyL mfB, ?_⟩
        walk_at "go"
        refine mA hw s4.i (by decide +kernel) ?_
        walk_at "go"
        refine ⟨G4, a, dx, q, z.2.2, rfl, s4.i, eg4 _ _ ga, eg4 _ _ gq, fun G5 H5 r5 s5 g5 => ?_⟩
        walk_at "go"
        have hL : IsL (IsBV K) G5 (.ref r5) (z.2.1.zip z.2.2) := ⟨r5, _, rfl, g5, zip_bv (paired_imp (fun a b q => IsBlk.mono _ _ a b (eg4.trans s5.g) q) pb)⟩
        have hm : (z.1, z.2.1) ∈ zh zs := List.mem_map.mpr ⟨z, List.mem_of_getElem? hzi, rfl⟩
        have hl : z.2.1.length ≤ 1500 := of_decide_eq_true (List.all_eq_true.mp hsz _ hm)
        have hzl2 : (z.2.1.zip z.2.2).length ≤ 1500 := by rw [List.length_zip]; exact Nat.le_trans (Nat.min_le_left _ _) hl
        refine lcG (R := IsBV K) (S := IsPrR K) IsBV.mono IsPrR.mono (fun _ => true) (fun q => (q.1, z.1, q.2)) s5.i hL (by omega) (fun y wy G6 H6 N0 N1 _ s6 hwy n0 n1 => ?_) fun G6 H6 D s6 hD6 => ?_
        · refine ⟨rfl, ?_⟩
          walk_at "go"
          refine tupI s6.i (by show 2 ≤ 1000; decide) fun pt G7 H7 s7 ht => ?_
          refine n1 _ _ _ s7 ⟨pt, rfl, ?_, ?_⟩ rfl
          · rw [ht, hwy.2]
          · show IsBlk K G7 y.2 y.1
            rw [← hwy.2]
            exact IsBlk.mono _ _ _ _ s7.g hwy.1
        · have ef : ((z.2.1.zip z.2.2).filter fun _ => true) = z.2.1.zip z.2.2 := List.filter_eq_self.mpr fun _ _ => rfl
          rw [ef] at hD6
          walk_at "go"
          have mfC := s6.mu (s5.mu mfB)
          refine extL mfC hD6 s6.i (by rw [List.length_map]; omega) fun H7 ws s7 m7 p7 => ?_
          walk_at "go"
          refine hnx _ G6 H7 ⟨_, _, _, _, rfl, (sA.trans (St.up ((s4.trans s5).trans s6))).trans (s7.sub (by simp)), s7.m _ _ (fun q => hdf (List.mem_singleton.mp q)) (s6.mu (s5.mu (s4.mu mdA))), m7, ?_⟩
          rw [hmore]
          have ep : partZ z = (z.2.1.zip z.2.2).map fun q => (q.1, z.1, q.2) := by unfold partZ; rw [if_neg hne]
          rw [ep]
          exact paired_app (paired_imp (fun a b q => IsPrR.mono _ _ a b ((s4.trans s5).trans s6).g q) pA) p7
      · have hne : z.1 = Str.ofString "" := by
          by_cases c : z.1 = Str.ofString ""
          · exact c
          · rw [decide_eq_false c] at c1; cases c1
        walk_at "go"
        refine hnx _ G4 H4 ⟨_, _, _, _, rfl, sA.trans (St.up s4), s4.mu mdA, s4.mu mfA, ?_⟩
        rw [hmore]
        have ep : partZ z = [] := by unfold partZ; rw [if_pos hne]
        rw [ep, List.append_nil]
        exact paired_imp (fun a b q => IsPrR.mono _ _ a b s4.g q) pA
    · rintro od σ' G3 H3 H4 ⟨o2, o3, o4, acc, rfl, sA, mdA, mfA, pA⟩ s4 m4
      rw [hzl, List.take_length] at pA
      have mfB := s4.m _ _ (fun q => hdf (List.mem_singleton.mp q).symm) mfA
      have s5 : Stm [pf] G0 H1 G3 H4 := Stm.closeA (sA.trans (s4.sub (by simp))) ms1.d m4
      obtain ⟨s6, g6⟩ := freeze mfB s5.i
      have s7 : St G0 H (upd G3 pf (.lst acc)) H4 := Stm.fresh s1 (s5.trans s6) fun q hq => by rw [List.mem_singleton.mp hq]; exact hpf
      walk_at "go"
      refine sortLM (R := IsPrR K) (kx := rkey) IsPrR.mono IsPrR.un ⟨pf, acc, rfl, g6, paired_imp (fun a b q => IsPrR.mono _ _ a b s6.g q) pA⟩ s7.i fun H8 p8 ws ys hp8 s8 m8 p8' hp ho => ?_
      exact k _ _ _ ws ys (s7.none hp8 fun z => nomatch z) (s7.trans s8) m8 p8' hp ho
end
end GT

/-! ## GSortQ -/
set_option Elab.async false
set_option linter.all false
set_option maxRecDepth 100000
set_option maxHeartbeats 2000000
namespace G
open PySem PySem.Spec PyProof.Rows L2
/-! ### sorted lists of tuples of four, the first two numbers apart, the others perhaps None -/
def quad (b : Blk) : HO := .tup [.int b.t, .int b.l, optV b.b, optV b.r]
def IsQuad (h : Heap) (v : Value) (b : Blk) : Prop := ∃ a o t1 t2 u w n, v = .ref a ∧ h.get? a = some o ∧ o.cls = .type "tuple" ∧ o.data = .seq #[.int b.t t1, .int b.l t2, u, w] n ∧ RelV (optV b.b) u ∧ RelV (optV b.r) w
theorem IsQuad.keeps {h h' : Heap} {v : Value} {b : Blk} (p : IsQuad h v b) (k : ∀ c o, h.get? c = some o → o.cls = .type "tuple" → h'.get? c = some o) : IsQuad h' v b := by
  obtain ⟨a, o, t1, t2, u, w, n, e, ho, hc, r⟩ := p
  exact ⟨a, o, t1, t2, u, w, n, e, k _ _ ho hc, hc, r⟩
theorem flat_opt (o : Option Int) : SameV (optV o) (optV o) := by cases o <;> exact ⟨rfl, .inl rfl⟩
section
variable {prog : Program} {w : World} {A : Around} {s : Shared}
def bkey (b : Blk) : Int × Int := (b.t, b.l)
/-- the blocks that begin at one cell are one -/
def OneKey (f : Value → Blk) (vs : List Value) : Prop := ∀ v ∈ vs, ∀ u ∈ vs, bkey (f v) = bkey (f u) → f v = f u
theorem quad_cmp {vs : List Value} {f : Value → Blk} (hp : ∀ v ∈ vs, IsQuad s.heap v (f v)) (one : OneKey f vs) : SrtO.Cmp prog w A s (tuples' true) (fun p => p.1 ∈ vs) (SrtO.lt2 fun v u => SrtO.lexB (bkey (f v)) (bkey (f u))) := by
  intro p q hm hm'
  show wpAny (model prog w) A (keyLt' (tuples' true) p.1 q.1) (fun r s' => s' = s ∧ r = SrtO.lexB (bkey (f p.1)) (bkey (f q.1))) (fun _ _ => False) s
  obtain ⟨a, o, t1, t2, u1, u2, n, e, ho, hc, hd, r1, r2⟩ := hp _ hm
  obtain ⟨a', o', t1', t2', v1, v2, n', e', ho', hc', hd', r1', r2'⟩ := hp _ hm'
  have same := one _ hm _ hm'
  generalize f p.1 = b at hd r1 r2 same ⊢
  generalize f q.1 = c at hd' r1' r2' same ⊢
  rw [e, e']
  have goal : ∀ x : Bool, x = SrtO.lexB (bkey b) (bkey c) → (s = s ∧ x = SrtO.lexB (bkey b) (bkey c)) := fun x h => ⟨rfl, h⟩
  refine PySem.W.kat_lt ho hd ho' hd' ?_
  show PySem.W.KatLex prog w A true (decide (4 < 4)) _ [(.int b.t t1, .int c.t t1'), (.int b.l t2, .int c.l t2'), (u1, v1), (u2, v2)] 0 s
  refine PySem.W.kat_cons (SeqAt.EqAt.int_int b.t t1 c.t t1' prog w _ _ ?_)
  refine PySem.W.kat_go (fun e1 => ?_) (fun e1 => ?_)
  · have e1 : b.t = c.t := by simpa using e1
    refine PySem.W.kat_yes (PySem.W.kat_cons (SeqAt.EqAt.int_int b.l t2 c.l t2' prog w _ _ ?_))
    refine PySem.W.kat_go (fun e2 => ?_) (fun e2 => ?_)
    · have e2 : b.l = c.l := by simpa using e2
      have eb := same (Prod.ext e1 e2)
      subst eb
      refine PySem.W.kat_yes (PySem.W.kat_cons ((flat_opt b.b).eqAt r1 r1' prog w _ _ ?_))
      refine PySem.W.kat_yes (PySem.W.kat_cons ((flat_opt b.r).eqAt r2 r2' prog w _ _ ?_))
      refine PySem.W.kat_yes (PySem.W.kat_nil (goal _ (SrtO.lexB_no.mpr ?_).symm))
      omega
    · have e2 : ¬ b.l = c.l := by simpa using e2
      refine PySem.W.kat_no (PySem.W.kat_one _ _ (lt_int (goal _ ?_)))
      unfold SrtO.lexB bkey
      rw [if_pos e1]
  · have e1 : ¬ b.t = c.t := by simpa using e1
    refine PySem.W.kat_no (oneLt_int (goal _ ?_))
    unfold SrtO.lexB bkey
    rw [if_neg e1]
theorem quad_firsts {h : Heap} {f : Value → Blk} : ∀ {vs : List Value}, (∀ v ∈ vs, IsQuad h v (f v)) → ∃ fs : List Value, PySem.W.KatTups h vs fs ∧ fs.length = vs.length ∧ ∀ x ∈ fs, ∃ i t, x = Value.int i t
  | [], _ => ⟨[], .nil, rfl, fun x hx => by cases hx⟩
  | v :: vs, hp => by
    obtain ⟨fs, h1, h2, h3⟩ := quad_firsts (vs := vs) fun u hu => hp u (List.mem_cons_of_mem _ hu)
    obtain ⟨a, o, t1, _, _, _, n, rfl, ho, hc, hd, _⟩ := hp v (by simp)
    refine ⟨.int (f (.ref a)).t t1 :: fs, .cons ho hc hd rfl h1, by simp [h2], fun x hx => ?_⟩
    exact (List.mem_cons.mp hx).elim (fun e => ⟨_, t1, e⟩) (h3 x)
theorem quad_sortable {a : Addr} {vs : List Value} {f : Value → Blk} (h0 : 0 < vs.length) (hp : ∀ v ∈ vs, IsQuad s.heap v (f v)) (one : OneKey f vs) (ha : ∀ o, s.heap.get? a = some o → o.cls ≠ .type "tuple") : SrtO.SortableO prog w A s a vs fun v u => SrtO.lexB (bkey (f v)) (bkey (f u)) := by
  intro h' keep
  have hp' : ∀ v ∈ vs, IsQuad h' v (f v) := fun v hv => (hp v hv).keeps fun b o e c => keep b o (fun z => ha o (z ▸ e) c) e
  obtain ⟨fs, h1, h2, h3⟩ := quad_firsts hp'
  refine ⟨tuples' true, fun Q E hq => ?_, quad_cmp hp' one⟩
  refine PySem.W.kat_kind (T := .type "int") h1 (by omega) (fun x hx => ?_) rfl ?_
  · obtain ⟨i, t, rfl⟩ := h3 x hx
    exact PySem.W.Looks.now
  · have e : (Value.type "int" != Value.type "tuple") = true := by decide +kernel
    rw [e]; exact hq
end
def rSortQ (K : PySem.W.Frag) : List V → Hp → VK → Prop := fun vs H Q => ∃ (a : Addr) (xs : List V) (f : V → Blk), vs = [.ref a] ∧ SqL K H a xs ∧ (∀ x ∈ xs, ∃ t, x = .ref t ∧ H t = some (quad (f x))) ∧ (∀ x ∈ xs, ∀ y ∈ xs, bkey (f x) = bkey (f y) → f x = f y) ∧
  ∀ ys p, ys.Perm xs → ys.Pairwise (fun x y => lexLe (bkey (f x)) (bkey (f y))) → H p = none → Q (.ref p) (upd H p (.lst ys))
theorem cr_sortQ {X : Cx} {K : PySem.W.Frag} (hK : X.K = K) : CallR X (.builtin "sorted") (rSortQ K) := by
  subst hK
  intro pins s σ H vs us Q I r h
  obtain ⟨a, xs, f, rfl, hs, hx, one, q⟩ := h
  obtain ⟨its, rv, hl, hz⟩ := I.list hs
  rw [Vals.ref1 r]
  obtain ⟨e1, e2⟩ := refs_back rv fun x m => let ⟨t, e, _⟩ := hx x m; ⟨t, e⟩
  have back : ∀ v ∈ its, backV v ∈ xs := fun v hv => by rw [e1]; exact List.mem_map_of_mem hv
  have hq : ∀ v ∈ its, IsQuad s.heap v (f (backV v)) := fun v hv => by
    obtain ⟨t, rfl⟩ := e2 v hv
    obtain ⟨t', e, ht⟩ := hx _ (back _ hv)
    have e : V.ref t = V.ref t' := e
    cases e
    obtain ⟨_, its2, r2, o, ho, hc, n, hd⟩ := I.hok _ _ ht
    generalize f (backV (.ref t)) = b at r2 ⊢
    cases r2 with
    | cons ra r2 =>
      cases r2 with
      | cons rb r2 =>
        cases r2 with
        | cons rc r2 =>
          cases r2 with
          | cons rd r2 =>
            cases r2
            obtain ⟨t1, rfl⟩ := ra
            obtain ⟨t2, rfl⟩ := rb
            exact ⟨t, o, t1, t2, _, _, n, rfl, ho, hc, hd, rc, rd⟩
  refine SrtO.sorted_ord (SrtO.swo_lex fun v => bkey (f (backV v))) hl.isList (by rw [← rv.length]; exact hz) (fun h2 h₁ b hb kk => ?_) fun out h1 h2 => ?_
  · refine quad_sortable (s := { s with heap := h₁ }) (f := fun v => f (backV v)) (by omega) (fun v hv => (hq v hv).keeps fun c o e _ => (kk c o e).2) (fun v hv u hu e => one _ (back v hv) _ (back u hu) e) fun o e c => ?_
    rw [hb] at e
    cases e
    exact absurd (Value.type.inj c) (by decide)
  · have h3 : ∀ u ∈ out, ∃ c, u = Value.ref c := fun u hu => e2 u (h2.perm.mem_iff.mp hu)
    have pm : (out.map backV).Perm xs := by rw [e1]; exact h2.perm.map _
    have hn : H (s.heap.objs.size + 1) = none := I.hok.fresh (Nat.le_succ _)
    obtain ⟨n, hn2⟩ := sortedAll_at s.heap its out.toArray
    refine ⟨.ref _, upd H (s.heap.objs.size + 1) (.lst (out.map backV)), I.laid (t' := s.toks) (fun b o e => sortedAll_old e) (Nat.le_succ _) ⟨by rw [pm.length_eq]; exact hz, out, n, vals_back h3, hn2⟩, rfl, q _ _ pm ?_ hn⟩
    rw [List.pairwise_map]
    exact h1.imp fun {x y} l => lexB_le l
abbrev IsTB : Rp Blk := fun G v b => ∃ t, v = .ref t ∧ G t = some (quad b)
theorem IsTB.mono : Mono IsTB := fun _ _ _ _ e ⟨t, h1, h2⟩ => ⟨t, h1, e _ _ h2⟩
theorem IsTB.un {G : Hp} {v : V} {a b : Blk} (h : IsTB G v a) (g : IsTB G v b) : a = b := by
  obtain ⟨t, rfl, h1⟩ := h
  obtain ⟨t', e, h2⟩ := g
  cases e
  rw [h1] at h2
  unfold quad at h2
  simp only [Option.some.injEq, HO.tup.injEq, List.cons.injEq, V.int.injEq, and_true] at h2
  obtain ⟨e1, e2, e3, e4⟩ := h2
  obtain ⟨t1, l1, b1, r1⟩ := a
  obtain ⟨t2, l2, b2, r2⟩ := b
  have e3 := optV_inj e3
  have e4 := optV_inj e4
  simp only at e1 e2 e3 e4
  rw [e1, e2, e3, e4]
open Classical in
theorem sortQ {K : PySem.W.Frag} {G H : Hp} {v : V} {bs : List Blk} {Q : VK} (hx : IsL IsTB G v bs) (e : Ex G H) (one : ∀ x ∈ bs, ∀ y ∈ bs, bkey x = bkey y → x = y) (h : ∀ G1 H1 p, St G H G1 H1 → IsL IsTB G1 (.ref p) (sortB bs) → Q (.ref p) H1) : rSortQ K [v] H Q := by
  obtain ⟨p0, ws, rfl, hp, hr⟩ := hx
  let f : V → Blk := fun v => if h : ∃ b, IsTB G v b then h.choose else default
  have hf : ∀ v b, IsTB G v b → f v = b := fun v b hb => by
    have ex : ∃ b, IsTB G v b := ⟨b, hb⟩
    show (if h : ∃ b, IsTB G v b then h.choose else default) = b
    rw [dif_pos ex]
    exact IsTB.un ex.choose_spec hb
  have ebs : bs = ws.map f := paired_map hr hf
  have all : ∀ x ∈ ws, IsTB G x (f x) := fun x hx => by
    obtain ⟨y, hy⟩ := paired_all hr x hx
    rw [hf x y hy]; exact hy
  refine ⟨p0, ws, f, rfl, sq (e _ _ hp), fun x hx => let ⟨t, h1, h2⟩ := all x hx; ⟨t, h1, e _ _ h2⟩, fun x hx y hy => one _ (by rw [ebs]; exact List.mem_map_of_mem hx) _ (by rw [ebs]; exact List.mem_map_of_mem hy), fun ys p hperm hord hn => ?_⟩
  obtain ⟨s, g⟩ := alF (o := .lst ys) hn e
  have pm : (ys.map f).Perm bs := by rw [ebs]; exact hperm.map f
  have es : ys.map f = sortB bs := by
    refine perm_sorted (pm.trans (sortB_perm bs).symm) ?_ (sortB_sorted bs) fun x hx y hy e1 e2 => one x ((sortB_perm bs).mem_iff.mp hx) y ((sortB_perm bs).mem_iff.mp hy) (Prod.ext e1 e2)
    rw [List.pairwise_map]
    exact hord.imp fun {x y} l => (leB_iff _ _).mpr l
  refine h _ _ p s ⟨p, ys, rfl, g, ?_⟩
  rw [← es]
  exact paired_self fun x hx => IsTB.mono _ _ _ _ s.g (all x (hperm.mem_iff.mp hx))
end G

/-! ## GDictK -/
set_option Elab.async false
set_option linter.all false
set_option maxRecDepth 100000
set_option maxHeartbeats 2000000
namespace G
open PySem PySem.Spec PyProof.Rows L2
/-! ### such a dict's keys: gone through, listed; what stands at a key -/
def ItKX (P : Program) (w : World) (d : Addr) (o : Obj) (xs : Xs) : It :=
  ⟨fun i H => H d = some (.frz o (dxO P w d xs)) ∧ i < xs.length, fun i H x H' => H' = H ∧ ∃ y, xs[i]? = some y ∧ x = .ref y.2.1, fun i H => H d = some (.frz o (dxO P w d xs)) ∧ xs.length ≤ i⟩
section
variable {P : Program} {w : World} {K : PySem.W.Frag} {tg : Expr} {d : Addr} {o : Obj} {es : Array DictEntry} {ep : Nat}
theorem key_at {xs : Xs} {us : Us} {i : Nat} {y : Rn × Addr × V} (hp : Paired RX xs us) (hes : es.toList = us.map (entryOfKey (nestedKind P w))) (hy : xs[i]? = some y) : ∃ en, es[i]? = some en ∧ en.key = .ref y.2.1 := by
  obtain ⟨u, hu, r1, r2, r3⟩ := paired_get hp hy
  refine ⟨entryOfKey (nestedKind P w) u, ?_, by show Value.ref u.2.1 = _; rw [r2]⟩
  rw [← Array.getElem?_toList, hes, List.getElem?_map, hu]
  rfl
theorem turn_keysX {xs : Xs} (it : Addr) (hod : o.data = .dict es ep) : Turn P w K tg (ItKX P w d o xs) [it] it (fun i h => h.IsKeyIter it d i xs.length ep) where
  mem := by simp
  obj := fun i h st b hb => by
    obtain rfl : b = it := by simpa using hb
    obtain ⟨oi, e, c, dd⟩ := st
    exact ⟨oi, e, fun v z => by rw [dd] at z; cases z⟩
  keep := fun i h h' st k => st.at fun oi e => k it (by simp) oi e
  item := by
    intro X hP hw hK hc i pins s σ H E I hf st hg
    subst hP hw hK
    obtain ⟨f0, f1, f2, f3, f4, f5⟩ := hf it (by simp)
    obtain ⟨hg1, hg2⟩ := hg
    obtain ⟨hs, hgd, hx, es', ep', us, hdt, hsz, hp, hes⟩ := frzX I hg1
    obtain ⟨rfl, rfl⟩ := dict_ep hod hdt
    obtain ⟨y, hy⟩ : ∃ y, xs[i]? = some y := ⟨xs[i], List.getElem?_eq_getElem hg2⟩
    obtain ⟨en, hen, hkey⟩ := key_at hp hes hy
    refine next_key_item st hgd hdt hsz hen fun h' st' sb => ?_
    have J : Inv X pins σ H { s with heap := h' } := I.turned (t' := s.toks) (fun b ob hb e => (sb.2 b hb).trans e) f0 f1 f3 f4 f5
    obtain ⟨oi, e, c, dd⟩ := id st'
    exact ⟨en.key, rfl, go_of (s := { s with heap := h' }) e c dd (by decide) ⟨.ref _, H, J, hkey, ⟨rfl, _, hy, rfl⟩, st', fun b hb => (hf b hb).1⟩⟩
  done := by
    intro X hP hw hK hc i pins s σ H E I hf st hg
    subst hP hw hK
    obtain ⟨f0, f1, f2, f3, f4, f5⟩ := hf it (by simp)
    obtain ⟨hs, hgd, hx, es', ep', us, hdt, hsz, hp, hes⟩ := frzX I hg.1
    obtain ⟨rfl, rfl⟩ := dict_ep hod hdt
    exact next_key_end (I.ok.hd hc) st hgd hdt hsz hg.2 fun h' eb => ⟨rfl, I.turned (t' := s.toks) (fun b ob hb e => eb b ob hb e) f0 f1 f3 f4 f5⟩
  self := fun A i s Q E st h => wpAny_pyIter_keyiter st h
end
def iKeysX (P : Program) (w : World) (td : TE) : TI := fun σ H R => td σ H fun x H1 => ∃ d o xs, x = .ref d ∧ H1 d = some (.frz o (dxO P w d xs)) ∧ R (ItKX P w d o xs) H1
theorem walk_keysX {P : Program} {w : World} {d : Addr} {o : Obj} {xs : Xs} : Walk (ItKX P w d o xs) xs.length (fun H => H d = some (.frz o (dxO P w d xs))) fun i H x H' => H' = H ∧ ∃ y, xs[i]? = some y ∧ x = .ref y.2.1 :=
  ⟨fun i H hi g => ⟨g, hi⟩, fun H g => ⟨g, Nat.le_refl _⟩, fun i H x H' hi g y => y⟩
theorem paired_ix {α β : Type} {F : α → β → Prop} : ∀ {xs : List α} {ys : List β}, xs.length = ys.length → (∀ (j : Nat) x y, xs[j]? = some x → ys[j]? = some y → F x y) → Paired F xs ys
  | [], [], _, _ => .nil
  | x :: xs, y :: ys, hl, h => .cons (h 0 x y rfl rfl) (paired_ix (Nat.succ.inj hl) fun j a b ha hb => h (j + 1) a b ha hb)
theorem dx_ofP {P : Program} {w : World} {H : Hp} {h : Heap} {d : Addr} {xs : Xs} (ok : HOk P w H h) (x : dxP P w d xs h) (kx : KX H xs) : ∃ us : Us, Paired RX xs us ∧ h.DictOfH (nestedKind P w) d us := by
  obtain ⟨_, _, us, o, es, ep, hp, ho, h1, h2, h3, h4⟩ := x
  refine ⟨us, hp, o, es, ep, ho, h1, h2, h3, fun u hu => ?_, h4⟩
  obtain ⟨j, hj⟩ := List.mem_iff_getElem?.mp hu
  obtain ⟨z, hz, r1, r2, _⟩ := paired_get' hp hj
  rw [r1, r2]
  exact is_key ok (kx z (List.mem_of_getElem? hz))
section
variable {X : Cx} {tg e : Expr} {td : TE}
theorem pi_keysX (he : PE X e td) : PI X tg e (iKeysX X.prog X.w td) := by
  refine ⟨fun pins s σ H R I h => ?_⟩
  refine thn (he.run pins s σ H _ I h) fun u s1 ⟨x, H1, I1, rx, d, o, xs, ex, hd, q⟩ => ?_
  subst ex
  obtain rfl : u = Value.ref d := rx
  obtain ⟨hs, hgd, hx, es, ep, us, hdt, hsz, hp, hes⟩ := frzX I1 hd
  refine iter_keys hs hgd hx hdt (pi_one (tk := s1.toks) I1 _ (turn_keysX _ hdt) ⟨_, Heap.get?_push_size _ rfl, rfl, ?_⟩ q)
  rw [hsz]; rfl
def rListX (P : Program) (w : World) : List V → Hp → VK → Prop := fun vs H Q => ∃ (d : Addr) (xs : Xs), vs = [.ref d] ∧ H d = some (dxO P w d xs) ∧ ∀ p, H p = none → Q (.ref p) (upd H p (.lst (xs.map fun x => .ref x.2.1)))
theorem cr_listX (hc : X.calm = true) : CallR X (.type "list") (rListX X.prog X.w) := by
  intro pins s σ H vs us Q I r h
  obtain ⟨d, xs, rfl, hd, q⟩ := h
  obtain ⟨⟨h0, hz, ks, o, es, ep, hp, ho, hx, hdat, hes, hnd⟩, _⟩ := (show ObjOk X.prog X.w H s.heap d (dxO X.prog X.w d xs) from I.hok d _ hd)
  have hsz : es.size = xs.length := by rw [← Array.length_toList, hes, List.length_map, paired_len hp]
  rw [Vals.ref1 r]
  refine PySem.W.kdl_call (KdlSrc.rawDict (es := es) (ep := ep) h0) (I.ok.hd hc) ⟨o, ho, hx, hdat⟩ (by rw [hsz]; exact hz) fun h' tk acc c hk hS hi => ?_
  have hv : Vals (xs.map fun x => V.ref x.2.1) acc.toList := by
    refine paired_ix (by rw [List.length_map]; exact hsz.symm.trans (hi.1.symm.trans Array.length_toList.symm)) fun j x y hx hy => ?_
    obtain ⟨z, hz1, rfl⟩ := Option.map_eq_some_iff.mp (by rw [← List.getElem?_map]; exact hx)
    obtain ⟨en, hen, hkey⟩ := key_at hp hes hz1
    obtain ⟨hj, e⟩ := hi.2 j y (by rw [← Array.getElem?_toList]; exact hy)
    have e2 := Array.getElem?_eq_getElem hj
    rw [hen] at e2
    rw [e, ← Option.some.inj e2, hkey]
    rfl
  refine ⟨.ref _, _, I.laid (t' := tk) hk (Nat.le_refl _) (show ObjOk X.prog X.w _ _ _ (.lst (xs.map fun x => V.ref x.2.1)) from ⟨by rw [List.length_map]; exact hz, acc.toList, c, hv, by rw [Array.toArray_toList]; exact hS⟩), rfl, q _ (I.hok.fresh (Nat.le_refl _))⟩
def rIxX (P : Program) (w : World) : R2 := fun x y H Q => ∃ (d t : Addr) (xs : Xs) (r : Rn) (v : V), x = .ref d ∧ y = .ref t ∧ (∃ o, H d = some o ∧ (o = dxO P w d xs ∨ ∃ od, o = .frz od (dxO P w d xs))) ∧ KX H xs ∧ H t = some (.tup [.int r.1, optV r.2]) ∧ valX xs r = some v ∧ Q v H
theorem ix_X {k : Nat} (hr : Room k X.A) : IxR X (rIxX X.prog X.w) := by
  intro value slice pins s σ H x y v u Q I rx ry h hs
  obtain ⟨d, t, xs, r, v0, rfl, rfl, ⟨o, hd, ho⟩, kx, ht, hv, q⟩ := h
  cases rx
  cases ry
  have hx : dxP X.prog X.w d xs s.heap := by
    rcases ho with rfl | ⟨od, rfl⟩
    · exact (show ObjOk X.prog X.w H s.heap d (dxO X.prog X.w d xs) from I.hok d _ hd).1
    · exact (I.hok d _ hd).2.1
  obtain ⟨ty, _⟩ := dx_typeIs hx
  obtain ⟨us, hp, dd⟩ := dx_ofP I.hok hx kx
  have rel := valX_rel r hp
  rw [hv] at rel
  obtain ⟨p, e, ru⟩ : ∃ p, atKey us (nk r) = some p ∧ RelV v0 p.2 := by
    cases q : atKey us (nk r) with
    | none => rw [q] at rel; exact rel.elim
    | some p => rw [q] at rel; exact ⟨p, rfl, rel⟩
  exact tail_any ty slot_dict_getitem.lookup (wpAny_getItem_heap (room8 hr) (is_key I.hok ht) dd e ⟨v0, H, I.tok _, ru, q⟩) hs
end
end G

/-! ## GSetL -/
set_option Elab.async false
set_option linter.all false
set_option maxRecDepth 100000
set_option maxHeartbeats 4000000
namespace G
open PySem PySem.Spec PyProof.Rows L2
/-! ### sets of any kind of keys: which keys there are, each once -/
theorem paired_perm {α β : Type} {F : α → β → Prop} {xs' xs : List α} (p : xs'.Perm xs) : ∀ {zs : List β}, Paired F xs zs → ∃ zs', Paired F xs' zs' ∧ zs'.Perm zs := by
  induction p with
  | nil => exact fun h => ⟨_, h, .refl _⟩
  | cons x _ ih =>
    intro zs h
    cases h with
    | cons r t =>
      obtain ⟨ys, h1, h2⟩ := ih t
      exact ⟨_ :: ys, .cons r h1, h2.cons _⟩
  | swap x y l =>
    intro zs h
    cases h with
    | cons r t =>
      cases t with
      | cons r' t' => exact ⟨_, .cons r' (.cons r t'), .swap _ _ _⟩
  | trans _ _ ih1 ih2 =>
    intro zs h
    obtain ⟨ys, h1, h2⟩ := ih2 h
    obtain ⟨us, h3, h4⟩ := ih1 h1
    exact ⟨us, h3, h4.trans h2⟩
section
variable {κ : Type} [DecidableEq κ]
def more (acc : List κ) (k : κ) : List κ := if k ∈ acc then acc else acc ++ [k]
def uniq (ks : List κ) : List κ := ks.foldl more []
theorem more_mem {acc : List κ} {k x : κ} : x ∈ more acc k ↔ x ∈ acc ∨ x = k := by
  unfold more
  split
  · rename_i h
    exact ⟨.inl, fun q => q.elim id fun e => e ▸ h⟩
  · rw [List.mem_append, List.mem_singleton]
theorem more_nodup {acc : List κ} {k : κ} (h : acc.Nodup) : (more acc k).Nodup := by
  unfold more
  split
  · exact h
  · rename_i n
    refine List.nodup_append.mpr ⟨h, by simp, fun a ha b hb e => n ?_⟩
    rw [List.mem_singleton] at hb
    rw [← hb, ← e]; exact ha
theorem more_len {acc : List κ} {k : κ} : (more acc k).length ≤ acc.length + 1 := by
  unfold more
  split <;> simp
theorem uniq_mem' : ∀ {ks acc : List κ} {x : κ}, x ∈ ks.foldl more acc ↔ x ∈ acc ∨ x ∈ ks
  | [], acc, x => by simp
  | k :: ks, acc, x => by rw [List.foldl_cons, uniq_mem', more_mem, List.mem_cons, or_assoc]
theorem uniq_mem {ks : List κ} {x : κ} : x ∈ uniq ks ↔ x ∈ ks := by unfold uniq; rw [uniq_mem']; simp
theorem uniq_nodup : ∀ {ks acc : List κ}, acc.Nodup → (ks.foldl more acc).Nodup
  | [], _, h => h
  | k :: ks, acc, h => uniq_nodup (ks := ks) (acc := more acc k) (more_nodup h)
theorem uniq_len' : ∀ {ks acc : List κ}, (ks.foldl more acc).length ≤ acc.length + ks.length
  | [], _ => Nat.le_refl _
  | k :: ks, acc => by
    rw [List.foldl_cons]
    have h1 := uniq_len' (ks := ks) (acc := more acc k)
    have h2 := more_len (acc := acc) (k := k)
    rw [List.length_cons]; omega
theorem uniq_len (ks : List κ) : (uniq ks).length ≤ ks.length := by
  have := uniq_len' (ks := ks) (acc := [])
  simpa [uniq] using this
variable {P : Program} {w : World} (knd : PySem.KeyKind P w κ)
structure EntOf (e : Int × Value) (k : κ) : Prop where
  is : knd.is k e.2 = true
  hash : e.1 = knd.hash k
  scan : e.2.scannable = true
structure TabOf (w : World) (es : Array (Int × Value)) (t : SetTable) : Prop where
  few : es.size < scanBound
  fits : t.fits es.size = true
  ris : Ris t.place.toList
  led : w.params.followText "set-order" = true ∨ t.led = true
def SetL (h : Heap) (a : Addr) (ks : List κ) : Prop :=
  ∃ o es ep t zs, h.get? a = some o ∧ o.ExactSet ∧ o.data = .set es ep t ∧ Paired (EntOf knd) es.toList zs ∧ zs.Perm ks ∧ ks.Nodup ∧ TabOf w es t
variable {knd}
theorem SetL.at {h h' : Heap} {a : Addr} {ks : List κ} (R : SetL knd h a ks) (k : ∀ o, h.get? a = some o → h'.get? a = some o) : SetL knd h' a ks := by
  obtain ⟨o, es, ep, t, zs, ho, r⟩ := R
  exact ⟨o, es, ep, t, zs, k o ho, r⟩
theorem ents_elems {es : List (Int × Value)} {zs : List κ} (h : Paired (EntOf knd) es zs) : ElemsOf knd es := fun e he => by
  obtain ⟨k, hk⟩ := paired_all h e he
  exact ⟨⟨k, hk.is, hk.hash⟩, hk.scan⟩
theorem ents_find : ∀ {es : List (Int × Value)} {zs : List κ} {k : κ}, Paired (EntOf knd) es zs → (k ∈ zs ↔ ∃ e ∈ es, knd.is k e.2 = true)
  | _, _, k, .nil => by simp
  | _, _, k, .cons (a := e) (b := z) r t => by
    rw [List.mem_cons, ents_find t]
    constructor
    · rintro (rfl | ⟨x, hx, q⟩)
      · exact ⟨e, by simp, r.is⟩
      · exact ⟨x, List.mem_cons_of_mem _ hx, q⟩
    · rintro ⟨x, hx, q⟩
      rcases List.mem_cons.mp hx with rfl | hx
      · exact .inl (knd.inj _ _ _ q r.is)
      · exact .inr ⟨x, hx, q⟩
variable {A : Around} {E : Value → Shared → Prop} {s : Shared} {a : Addr} {ks : List κ}
/-- the members are written, and the table is laid anew where it is too full -/
theorem setL_put {g : Bool → Sem Unit} (hg : ∀ (b : Bool) (s₁ : Shared) (Q' : Unit → Shared → Prop), Q' () s₁ → wpAny (model P w) A (g b) Q' E s₁) {o : Obj} {es es1 : Array (Int × Value)} {ep : Nat} {t t1 : SetTable} {zs : List κ}
    (ho : s.heap.get? a = some o) (hex : o.ExactSet) (hd : o.data = .set es ep t) (hp : Paired (EntOf knd) es1.toList zs) (hz : zs.Perm ks) (nd : ks.Nodup) (T : TabOf w es1 t1) {b : Bool} {R : Option Bool → Shared → Prop}
    (hR : ∀ h', Heap.SameBut a s.heap h' → SetL knd h' a ks → R (some true) { s with heap := h' }) :
    wpAny (model P w) A (do
        storeSet a es1 t1
        if (!b && t1.tooFull) = true then do
            g (relayAll t1 es1 (SetTable.grown es1.size)).2.2
            storeSet a (relayAll t1 es1 (SetTable.grown es1.size)).1 (relayAll t1 es1 (SetTable.grown es1.size)).2.1
            pure (some true)
          else pure (some true)) R E s := by
  have room := fits_of_scanBound T.few
  have h1 := store_at (es' := es1) (t' := t1) ho hd
  have s1 := Heap.SameBut.update s.heap a (Obj.putSet es1 t1)
  refine wpAny_bind (wpAny_storeSet_of ho hd ?_ room)
  by_cases c : (!b && t1.tooFull) = true
  · rw [if_pos c]
    have pm := relayAll_perm t1 es1 (SetTable.grown es1.size)
    have T2 : TabOf w (relayAll t1 es1 (SetTable.grown es1.size)).1 (relayAll t1 es1 (SetTable.grown es1.size)).2.1 :=
      ⟨by rw [← Array.length_toList, pm.length_eq, Array.length_toList]; exact T.few, relayAll_fits _ _ _, relayAll_ris _ _ _, T.led.imp id fun z => by rw [relayAll_led]; exact z⟩
    obtain ⟨us, hu, pu⟩ := paired_perm pm hp
    refine wpAny_bind (hg _ _ _ (wpAny_bind (wpAny_storeSet_of h1 rfl ?_ (fits_of_scanBound T2.few))))
    exact wpAny_pure (hR _ (s1.trans (Heap.SameBut.update _ a _)) ⟨_, _, _, _, us, store_at h1 rfl, hex, rfl, hu, pu.trans hz, nd, T2⟩)
  · rw [if_neg c]
    exact wpAny_pure (hR _ s1 ⟨_, _, _, _, zs, h1, hex, rfl, hp, hz, nd, T⟩)
theorem quiet_rule {r : String} {M : Model} (b : Bool) {s₁ : Shared} {Q' : Unit → Shared → Prop} (q : Q' () s₁) : wpAny M A (match b with | true => rule r | false => pure ()) Q' E s₁ := by
  cases b
  · exact wpAny_pure q
  · exact wpAny_rule q
theorem setL_add {k : κ} {x : Value} {Q : Bool → Shared → Prop} (hk : knd.is k x = true) (hs : x.scannable = true) (R : SetL knd s.heap a ks) (room : ks.length + 1 < scanBound)
    (hQ : ∀ h' b, Heap.SameBut a s.heap h' → SetL knd h' a (more ks k) → Q b { s with heap := h' }) :
    wpAny (model P w) A (setAddHashed a x (knd.hash k)) Q E s := by
  obtain ⟨o, es, ep, t, zs, ho, hex, hd, hp, hz, nd, T⟩ := R
  have el := ents_elems hp
  unfold setAddHashed setAddHashedIn
  refine wpAny_holding (wpAny_bind (wpAny_setState_of ho hd T.fits ?_))
  dsimp only
  rw [byScan_of hs T.few el]
  simp only [↓reduceIte]
  unfold setAddByScan
  refine wpAny_bind (wpAny_bind (wpAny_rule (wpAny_bind (wpAny_setScan_of hk ho hd T.fits el ?_))))
  cases hf : List.findIdx? (fun e => knd.is k e.2) es.toList with
  | some j =>
    dsimp only
    obtain ⟨hj, pj, _⟩ := List.findIdx?_eq_some_iff_getElem.mp hf
    have hin : k ∈ ks := hz.mem_iff.mp ((ents_find hp).mpr ⟨es.toList[j], List.getElem_mem hj, pj⟩)
    refine wpAny_pure (wpAny_pure ?_)
    refine hQ s.heap _ (Heap.SameBut.refl a s.heap) ?_
    unfold more
    rw [if_pos hin]
    exact ⟨o, es, ep, t, zs, ho, hex, hd, hp, hz, nd, T⟩
  | none =>
    dsimp only
    have hout : k ∉ ks := fun z => by
      obtain ⟨e, he, q⟩ := (ents_find hp).mp (hz.mem_iff.mpr z)
      have c := List.findIdx?_eq_none_iff.mp hf e he
      rw [q] at c; cases c
    have em : more ks k = ks ++ [k] := if_neg hout
    have ndm : (more ks k).Nodup := more_nodup nd
    have pm := layNew_perm t es (knd.hash k) x
    rw [Array.toList_push] at pm
    have hpush : Paired (EntOf knd) (es.toList ++ [(knd.hash k, x)]) (zs ++ [k]) := paired_snoc ⟨hk, rfl, hs⟩ hp
    obtain ⟨us, hu, pu⟩ := paired_perm pm hpush
    have hus : us.Perm (more ks k) := by rw [em]; exact pu.trans (hz.append_right [k])
    have hlen : es.size = ks.length := by rw [← Array.length_toList, paired_len hp, hz.length_eq]
    have T1 : TabOf w (layNew t es (knd.hash k) x).1 (layNew t es (knd.hash k) x).2.1 :=
      ⟨by rw [← Array.length_toList, pm.length_eq, List.length_append, Array.length_toList, hlen]; exact room, layNew_fits _ _ _ _, layNew_ris _ _ _ _ T.ris, T.led.imp id fun z => by rw [layNew_led]; exact z⟩
    generalize layNew t es (knd.hash k) x = Z at T1 hu ⊢
    obtain ⟨es1, t1, wasDummy, gave⟩ := Z
    dsimp only at T1 hu ⊢
    refine wpAny_bind (quiet_rule _ ?_)
    split
    · refine wpAny_bind ?_
      rw [hashByValue_scannable 8 hs]
      refine wpAny_pure (setL_put (fun b _ _ q => quiet_rule b q) ho hex hd hu hus ndm ?_ fun h' sb r => ?_)
      · first | (split <;> first | exact T1 | exact ⟨T1.few, SetTable.fits_plain_off T1.fits, T1.ris, T1.led⟩) | exact T1
      · dsimp only
        exact wpAny_pure (hQ h' _ sb r)
    · refine wpAny_bind (wpAny_pure ?_)
      simp only [↓reduceIte]
      refine setL_put (fun b _ _ q => quiet_rule b q) ho hex hd hu hus ndm T1 fun h' sb r => ?_
      dsimp only
      exact wpAny_pure (hQ h' _ sb r)
theorem setL_fresh {h : Heap} {a : Addr} (ho : h.get? a = some { cls := .type "set", dict := none, data := .set #[] 0 (.fresh 0 0 (!w.params.followText "set-order")) }) : SetL knd h a [] :=
  ⟨_, #[], 0, _, [], ho, ⟨rfl, rfl, rfl⟩, rfl, .nil, .nil, .nil, by decide, by rfl, .nil, by
    show _ ∨ (!w.params.followText "set-order") = true
    cases w.params.followText "set-order"
    · exact .inr rfl
    · exact .inl rfl⟩
end
end G

/-! ## GSetT -/
set_option Elab.async false
set_option linter.all false
set_option maxRecDepth 100000
set_option maxHeartbeats 4000000
namespace G
open PySem PySem.Spec PyProof.Rows L2
section
variable {κ : Type} [DecidableEq κ] {P : Program} {w : World} {knd : PySem.KeyKind P w κ} {A : Around} {E : Value → Shared → Prop}
theorem more_le {ks : List κ} {k : κ} {n : Nat} (h : ks.length ≤ n) : (more ks k).length ≤ n + 1 := Nat.le_trans more_len (Nat.succ_le_succ h)
/-- what is gone through is added, one by one -/
theorem setL_loop {I : Addr} {fp wr : List Addr} {G : Array GenState → Array GenState → Prop} {n : Nat} {Pv : Nat → Value → Prop} {St : Nat → Shared → Prop} {R : Result → Shared → Prop}
    (W : WalksS P w A.in1 I fp wr G n Pv St) (S : Addr) (hSf : S ∉ fp) (ns : List κ) (hn : n = ns.length) (hb : n + 1 < scanBound) (hval : ∀ i v, Pv i v → ∃ k, ns[i]? = some k ∧ knd.is k v = true ∧ v.scannable = true) :
    ∀ (todo i : Nat) (acc : List κ) (s : Shared), i + todo = n → St i s → SetL knd s.heap S acc → acc.length ≤ i → (ns.drop i).foldl more acc = uniq ns →
      (∀ s', Moved (S :: wr) G s s' → SetL knd s'.heap S (uniq ns) → R (.ok (.ret .none)) s') →
      codeAny (model P w) A (.builtin "set.update.loop" ⟨[.ref S, .ref I], []⟩) R s := by
  have out : S ∉ wr := fun h => hSf (W.sub _ h)
  intro todo
  induction todo with
  | zero =>
    intro i acc s hi hst hS hl hu hR
    refine codeAny_builtin F.entry_set_update_loop ?_
    rw [Around.under_plainId F.plain_set_update_loop _]
    show wpAny _ A.in1 (pyNext (.ref I) >>= _) _ _ s
    have hi : i = n := hi
    subst hi
    refine wpAny_bind (W.done s _ _ hst fun s' hm => ?_)
    show wpAny _ A.in1 (ret Value.none) _ _ s'
    rw [hn, List.drop_length] at hu
    have hu : acc = uniq ns := hu
    rw [hu] at hS
    exact wpAny_pure (hR s' (hm.mono fun b hb => List.mem_cons_of_mem _ hb) (hS.at fun o e => hm.heap S o out e))
  | succ todo ih =>
    intro i acc s hi hst hS hl hu hR
    have lt : i < n := by omega
    refine codeAny_builtin F.entry_set_update_loop ?_
    rw [Around.under_plainId F.plain_set_update_loop _]
    show wpAny _ A.in1 (pyNext (.ref I) >>= _) _ _ s
    refine wpAny_bind (W.item i s _ _ lt hst fun v s' hP hst' hm => ?_)
    obtain ⟨k, hk, his, hsc⟩ := hval i v hP
    have mm := hm.mono (fun b hb => List.mem_cons_of_mem S hb)
    show wpAny _ A.in1 (holding [v] (setAdd S v) >>= _) _ _ s'
    refine wpAny_bind (wpAny_holding ?_)
    unfold setAdd
    refine wpAny_holding (wpAny_bind (knd.pyHash his ?_))
    refine setL_add (s := { s' with toks := s'.toks + 1 }) his hsc (hS.at fun o e => hm.heap S o out e) (by omega) fun h' b sb hS2 => ?_
    have hd : ns.drop i = k :: ns.drop (i + 1) := by
      obtain ⟨h1, h2⟩ := List.getElem?_eq_some_iff.mp hk
      rw [List.drop_eq_getElem_cons h1, h2]
    rw [hd, List.foldl_cons] at hu
    refine wpAny_pure ⟨plainId_quiet F.plain_set_update_loop _, ih (i + 1) _ _ (by omega) (W.frame _ s' _ _ hst' (Nat.le_succ _) fun b hb o e => ?_) hS2 (more_le hl) hu fun s'' hm2 hS3 => ?_⟩
    · rw [sb.2 b fun h : b = S => hSf (by rw [← h]; exact hb)]; exact e
    · refine hR s'' (Moved.trans W.gtrans (mm.then_heap (Nat.le_succ _) fun b o hb e => ?_) hm2) hS3
      rw [sb.2 b fun h : b = S => hb (by rw [h]; exact List.mem_cons_self)]; exact e
variable {s : Shared}
abbrev bareSet (w : World) : Obj := { cls := .type "set", dict := none, data := .set #[] 0 (.fresh 0 0 (!w.params.followText "set-order")) }
/-- set(l) of a list whose things are keys of one kind -/
theorem call_setL {l : Addr} {items : Array Value} (ns : List κ) {Q : Value → Shared → Prop} (hh : A.handled = none) (hl : s.heap.IsList l items) (hit : Paired (fun v k => knd.is k v = true ∧ v.scannable = true) items.toList ns) (hb : ns.length + 1 < scanBound)
    (h : ∀ (h' : Heap) (tk : Nat), SetL knd h' s.heap.objs.size (uniq ns) → (∀ b o, s.heap.get? b = some o → h'.get? b = some o) → Q (.ref s.heap.objs.size) { s with heap := h', toks := tk }) :
    wpAny (model P w) A (call (.type "set") [.ref l]) Q E s := by
  have len : items.size = ns.length := by rw [← paired_len hit, Array.length_toList]
  obtain ⟨c, tl, hmro⟩ := F.called_set.mro
  have hmade := F.called_set.made
  have hsub := F.called_set.sub
  refine wpAny_call (codeAny_of_tree ?_)
  show wpAny _ _ (callAny (.type "set") _) _ _ _
  refine wpAny_pure ⟨Code.quiet_builtin _ (by decide +kernel), codeAny_builtin F.entry_type_call ?_⟩
  rw [Around.under_plain (weight_type_call_type "set" [.ref l] []) rfl]
  have h1 := F.called_set.notType
  have h2 := F.called_set.canCreate
  have hct := F.typeCall_set_1 (.ref l)
  repeat (any_goals (first | assumption | wp_step))
  refine codeAny_mono (code_set_led1 (.ref l) (E := E) (Q₁ := fun obj s₁ => obj = .ref s.heap.objs.size ∧ s₁ = { s with heap := s.heap.push (bareSet w) }) ⟨rfl, rfl⟩) fun r s₁ hr => ?_
  cases r with
  | error e => exact hr
  | ok fl =>
    cases fl with
    | ret obj =>
      obtain ⟨rfl, rfl⟩ := hr
      have hS : (s.heap.push (bareSet w)).get? s.heap.objs.size = some (bareSet w) := Heap.get?_push_size _ rfl
      have hT : Shared.TypeIs { s with heap := s.heap.push (bareSet w) } (.ref s.heap.objs.size) "set" := ⟨_, hS, rfl⟩
      have hli := F.called_set.init.lookup
      have hbi := F.called_set.init.bind (.ref s.heap.objs.size)
      repeat (any_goals (first | assumption | wp_step))
      refine codeAny_mono (codeAny_call_builtin (R := wants (fun r s₂ => r = .none ∧ ∃ h' tk, s₂ = { s with heap := h', toks := tk } ∧ SetL knd h' s.heap.objs.size (uniq ns) ∧ (∀ b o, s.heap.get? b = some o → h'.get? b = some o)) E) F.called_set.init.plain F.entry_set_init (check_set_init_1 hT ?_)) fun r₂ s₂ hr₂ => ?_
      · obtain ⟨ol, hol, hcl, nl, hdl⟩ := hl
        obtain ⟨ocls, odict, odata, oslots⟩ := ol
        simp only at hcl hdl
        subst hcl; subst hdl
        have hlS : l < s.heap.objs.size := Heap.lt_size hol
        have hl1 : (s.heap.push (bareSet w)).IsList l items := ⟨_, Heap.get?_push_of_some _ hol, rfl, nl, rfl⟩
        have hsls := F.sub_list_set
        have hslf := F.sub_list_frozenset
        have hne : (Value.type "list" == Value.type "dict") = false := by decide
        have hol' := hl1
        obtain ⟨_, hol', _⟩ := hol'
        have hol' : (s.heap.push (bareSet w)).get? l = some { cls := .type "list", dict := odict, data := .seq items nl, slots := oslots } := Heap.get?_push_of_some _ hol
        unfold Builtin.«set.__init__» noKeywords Builtin.Frozenset.updateFrom
        generalize hPI : pyIter = PI
        wp_walk
        subst hPI
        refine wpAny_pyIter_list hl1 (wpAny_bind (wpAny_runValue ?_))
        have hz : (s.heap.push (bareSet w)).objs.size = s.heap.objs.size + 1 := Heap.size_push ..
        have nI : l ≠ (s.heap.push (bareSet w)).objs.size := by rw [hz]; exact Nat.ne_of_lt (Nat.lt_succ_of_lt hlS)
        have nf : s.heap.objs.size ∉ [(s.heap.push (bareSet w)).objs.size, l] := by
          rw [hz]; simp only [List.mem_cons, List.not_mem_nil, or_false, not_or]; exact ⟨Nat.ne_of_lt (Nat.lt_succ_self _), Nat.ne_of_gt hlS⟩
        have hh3 : A.in1.in1.in1.handled = none := by simp [hh]
        refine setL_loop (knd := knd) ((Walks.list hh3 _ l nI items).toS) s.heap.objs.size nf ns len (by rw [len]; exact hb) (fun i v hv => ?_) items.size 0 [] _ (by omega) ⟨⟨_, Heap.get?_push_size _ rfl, rfl, rfl⟩, hl1.push _⟩ ?_ (Nat.le_refl _) rfl ?_
        · obtain ⟨k, hk, q⟩ := paired_get hit (show items.toList[i]? = some v by rw [Array.getElem?_toList]; exact hv)
          exact ⟨k, hk, q.1, q.2⟩
        · exact setL_fresh (Heap.get?_push_of_some _ hS)
        · intro s' hm hS'
          obtain ⟨h', g2, d', tk', os'⟩ := s'
          have eg : g2 = s.gens := hm.gens
          have ed : d' = s.drawn := hm.drawn
          have eo : os' = s.os := hm.os
          subst eg; subst ed; subst eo
          show wpAny _ _ _ _ _ _
          refine wpAny_pure ?_
          show wpAny _ _ (ret Value.none) _ _ _
          refine wpAny_pure ⟨rfl, h', tk', rfl, hS', fun b o e => ?_⟩
          have hb0 : b < s.heap.objs.size := Heap.lt_size e
          refine hm.heap b o ?_ (Heap.get?_push_of_some _ (Heap.get?_push_of_some _ e))
          rw [hz]
          simp only [List.mem_cons, List.not_mem_nil, or_false, not_or]
          exact ⟨Nat.ne_of_lt hb0, Nat.ne_of_lt (Nat.lt_succ_of_lt hb0)⟩
      · cases r₂ with
        | error e => exact hr₂
        | ok fl₂ =>
          cases fl₂ with
          | ret r =>
            obtain ⟨rfl, h', tk, rfl, hS', hk'⟩ := hr₂
            repeat (any_goals (first | assumption | wp_step))
            exact h _ _ hS' hk'
          | _ => exact hr₂.elim
    | _ => exact hr.elim
end
theorem ents_is {κ : Type} [DecidableEq κ] {P : Program} {w : World} {knd : PySem.KeyKind P w κ} : ∀ {l : List (Int × Value)} {zs : List κ}, Paired (EntOf knd) l zs → Paired (fun v k => knd.is k v = true) (l.map (·.2)) zs
  | _, _, .nil => .nil
  | _, _, .cons r t => .cons r.is (ents_is t)
/-! ### texts -/
def SetSO (P : Program) (w : World) (a : Addr) (ks : List Str) : HO := .ext fun h => SetL (PySem.strKind P w) h a ks
section
variable {X : Cx}
theorem setSO_new {P : Program} {w : World} {H : Hp} {h : Heap} {a : Addr} {ks : List Str} (R : SetL (PySem.strKind P w) h a ks) : ObjOk P w H h a (SetSO P w a ks) := by
  have ⟨o, _, _, _, _, ho, _⟩ := R
  exact ⟨R, ⟨o, ho⟩, fun h1 h2 p k => SetL.at p k⟩
def rSetS (K : PySem.W.Frag) (P : Program) (w : World) : List V → Hp → VK → Prop := fun vs H Q => ∃ (a : Addr) (ns : List Str), vs = [.ref a] ∧ SqL K H a (ns.map V.str) ∧ ns.length + 1 < scanBound ∧
  ∀ (p : Addr), H p = none → Q (.ref p) (upd H p (SetSO P w p (uniq ns)))
theorem strs_items : ∀ {ns : List Str} {its : List Value} {P : Program} {w : World}, Vals (ns.map V.str) its → Paired (fun v k => (PySem.strKind P w).is k v = true ∧ v.scannable = true) its ns
  | [], _, _, _, .nil => .nil
  | n :: ns, _, P, w, .cons r t => by
    obtain ⟨tk, rfl⟩ := r
    exact .cons ⟨by show (n == n) = true; exact beq_self_eq_true n, rfl⟩ (strs_items t)
theorem cr_setS (hc : X.calm = true) : CallR X (.type "set") (rSetS X.K X.prog X.w) := by
  intro pins s σ H vs us Q I r h
  obtain ⟨a, ns, rfl, hs, hz, q⟩ := h
  obtain ⟨its, rv, hl, _⟩ := I.list hs
  rw [Vals.ref1 r]
  refine call_setL (knd := PySem.strKind X.prog X.w) ns (I.ok.hd hc) hl.isList (by simpa using strs_items rv) hz fun h' tk R hk => ?_
  exact ⟨.ref _, upd H s.heap.objs.size (SetSO X.prog X.w s.heap.objs.size (uniq ns)), I.laid (t' := tk) hk (Nat.le_refl _) (setSO_new R), rfl, q _ (I.hok.fresh (Nat.le_refl _))⟩
theorem strs_of : ∀ {l : List Value} {ks : List Str} {P : Program} {w : World}, Paired (fun v k => (PySem.strKind P w).is k v = true) l ks → StrsAre l ks
  | _, _, _, _, .nil => .nil
  | _, _, _, _, .cons r t => by
    obtain ⟨tk, rfl⟩ := Value.isStrOf_shape r
    exact .cons _ tk (strs_of t)
def rSortS (P : Program) (w : World) : List V → Hp → VK → Prop := fun vs H Q => ∃ (a : Addr) (ks : List Str), vs = [.ref a] ∧ H a = some (SetSO P w a ks) ∧ ks.length < 64 ∧
  ∀ ys p, ys.Perm ks → sortedS ys = true → H p = none → Q (.ref p) (upd H p (.lst (ys.map V.str)))
theorem cr_sortS (hc : X.calm = true) : CallR X (.builtin "sorted") (rSortS X.prog X.w) := by
  intro pins s σ H vs us Q I r h
  obtain ⟨a, ks, rfl, ha, h64, q⟩ := h
  have R : SetL (PySem.strKind X.prog X.w) s.heap a ks := (I.hok a _ ha).1
  obtain ⟨o, es, ep, t, zs, ho, hex, hd, hp, hz, nd, T⟩ := R
  rw [Vals.ref1 r]
  refine Calls.call_function_entry kind_sorted plain_sorted entry_sorted (args_sorted1 _) ?_
  unfold Builtin.«sorted»
  refine wpAny_bind (m := checkCount "sorted" 1 1 _) (wpAny_pure ?_)
  refine wpAny_bind (collect_set (A := X.A.in1) (by simpa using I.ok.hd hc) ⟨o, ho, hex.1, hd⟩ T.fits T.few T.ris T.led fun s1 vs k1 hz1 g1 o1 pm => ?_)
  have pv := ents_is hp
  obtain ⟨ls, hls, pls⟩ := paired_perm pm pv
  have hS : StrsAre vs ls := strs_of hls
  have hal : vs.length = ks.length := by rw [paired_len hls, pls.length_eq, hz.length_eq]
  refine wpAny_bind (wpAny_newList ?_ (by rw [hal, sizeLine_eq]; omega))
  have hoL : (s1.heap.push (seqObj "list" vs.toArray 0)).get? s1.heap.objs.size = some (seqObj "list" vs.toArray 0) := Heap.get?_push_size _ rfl
  refine wpAny_bind (wpAny_holding (wpAny_call_entry slot_list_sort ⟨_, hoL, rfl⟩ entry_list_sort
    (list_sort_treeK strKind_oneLt (s := { s1 with heap := s1.heap.push (seqObj "list" vs.toArray 0) }) hoL hS.keysOf (fun v₁ v₂ rest e => keyKind_strs (by rw [← e]; exact hS)) (by rw [hal]; exact h64) fun st' hp hs => ⟨_, rfl, ?_⟩)
    (args_list_sort _)))
  obtain ⟨ys, g4, g2, g3⟩ := sorted_out_str hS hp hs
  obtain ⟨e', he'⟩ := sortedHeap_at (vs := vs) (out := (arrOf st').map (·.2)) hoL
  have pys : ys.Perm ks := g2.trans (pls.trans hz)
  have hlen : (ys.map V.str).length ≤ sizeLine := by
    rw [List.length_map, pys.length_eq]
    exact Nat.le_trans (Nat.le_of_lt h64) (by decide)
  obtain ⟨h', g', d', t', o'⟩ := s1
  have eo : o' = s.os := o1
  have eg : g' = s.gens := g1
  subst eo eg
  refine wpAny_pure ?_
  have hk : ∀ b u, s.heap.get? b = some u → (sortedHeap (h'.push (seqObj "list" vs.toArray 0)) h'.objs.size vs ((arrOf st').map (·.2))).get? b = some u := fun b u e => by
    have hb : b < h'.objs.size := Heap.lt_size (k1 b u e)
    rw [sortedHeap_old (Nat.ne_of_lt hb) (by rw [size_push']; exact Nat.lt_succ_of_lt hb)]
    exact Heap.get?_push_of_some _ (k1 b u e)
  have hn : H h'.objs.size = none := I.hok.fresh hz1
  have J : Inv X pins σ (upd H h'.objs.size (.lst (ys.map V.str))) { s with heap := sortedHeap (h'.push (seqObj "list" vs.toArray 0)) h'.objs.size vs ((arrOf st').map (·.2)), gens := s.gens, drawn := d', toks := t' } :=
    I.call (ch := []) (Un.laid hk hz1 hn) (I.hok.laid hk hz1 ⟨hlen, ((arrOf st').map (·.2)).toList, e', vals_of_strs g4, by rw [Array.toArray_toList]; exact he'⟩) I.bare (fun _ z => nomatch z)
  exact ⟨_, rfl, .ref h'.objs.size, _, J, rfl, q ys _ pys g3 hn⟩
end
end G

/-! ## GLaw -/
set_option Elab.async false
set_option linter.all false
set_option maxRecDepth 100000
namespace G
open PySem PySem.Spec PyProof.Rows L2
/-- int(x) of an int or a truth -/
def rInt1 : List V → Hp → VK → Prop := fun xs H Q => (∃ i, xs = [.int i] ∧ Q (.int i) H) ∨ ∃ k, xs = [.bl k] ∧ Q (.int (if k then 1 else 0)) H
theorem int1K {X : Cx} : CallR X (.type "int") rInt1 := call_int1
/-- the law's well: three numbers -/
def MuW (G H : Hp) (p : Addr) (c : Int) : Prop := ∃ a b, Mu G H p (.lst [.int a, .int b, .int c]) ∧ 0 ≤ b ∧ b < 2147483647
theorem ixW {K : PySem.W.Frag} {H : Hp} {p : Addr} {xs : List V} {i : Int} {v : V} {Q : VK} (h : H p = some (.lst xs)) (e : atI xs i = some v) (k : Q v H) : rIxL K (.ref p) (.int i) H Q := ⟨p, xs, i, v, rfl, rfl, sq h, e, k⟩
theorem x_gsub {to ti : TE} {t : TSet} {v : V} {σ : L2.St} {H : Hp} {Q : L2.St → Hp → Prop} (h : to σ H fun o H1 => ti σ H1 fun i H2 => t o i v H2 fun H3 => Q σ H3) : gSub to ti t v σ H Q := h
theorem setW {G H : Hp} {p : Addr} {xs : List V} {k : Int} {j : Nat} {v : V} {Q : Hp → Prop} (m : Mu G H p (.lst xs)) (e : Ex G H) (h : ixN xs.length k = some j) (q : ∀ H1, Stm [p] G H G H1 → Mu G H1 p (.lst (xs.set j v)) → Q H1) : rSetL (.ref p) (.int k) v H Q := by
  obtain ⟨s, m'⟩ := chgF (o' := .lst (xs.set j v)) m e
  exact ⟨p, xs, k, j, rfl, rfl, m.1, h, q _ s m'⟩
end G

/-! ## GHot -/
set_option Elab.async false
set_option linter.all false
set_option maxRecDepth 100000
set_option maxHeartbeats 2000000
/-! ### iterators that end while an exception is handled: only the first list of a zip can be at its end -/
namespace HotX
open PySem PySem.Spec PyProof.Rows
section
variable {prog : Program} {w : World} {A : Around} {E : Value → Shared → Prop} {s : Shared}
/-- a field is read, and on -/
theorem rd {M : Model} {α : Type} {a : Addr} {i : Nat} {o : Obj} {vs : Array Value} {x : Value} {f : Value → Sem α} {Q : α → Shared → Prop} (h : s.heap.get? a = some o) (d : o.data = .fields vs) (e : vs[i]? = some x) (k : wpAny M A (f x) Q E s) :
    wpAny M A (field (.ref a) i >>= f) Q E s := wpAny_bind (wpAny_field h d e k)
/-- the items of a list or tuple are read, and on -/
theorem rs {M : Model} {α : Type} {a : Addr} {o : Obj} {xs : Array Value} {n : Nat} {f : Option (Array Value) → Sem α} {Q : α → Shared → Prop} (h : s.heap.get? a = some o) (d : o.data = .seq xs n) (k : wpAny M A (f (some xs)) Q E s) :
    wpAny M A (seqItems? (.ref a) >>= f) Q E s := wpAny_bind (wpAny_seqItems h d k)
theorem HotAt.to {x1 : Addr} {h h' : Heap} (c : HotAt A x1 h) (k : ∀ o, h.get? x1 = some o → h'.get? x1 = some o) : HotAt A x1 h' := by
  obtain ⟨hh, o, vs, e1, e2, e3⟩ := c
  exact ⟨hh, o, vs, k _ e1, e2, e3⟩
theorem HotAt.lt {x1 : Addr} {h : Heap} (c : HotAt A x1 h) : x1 < h.objs.size := let ⟨_, _, _, e, _⟩ := c; Heap.lt_size e
/-- what is known of the heap behind an iterator's end: the StopIteration at e is new, all but the addresses of no stands as it stood -/
def Ended (E : Value → Shared → Prop) (s : Shared) (no : Addr → Prop) : Prop :=
  ∀ h' e, (∀ b o, ¬ no b → s.heap.get? b = some o → h'.get? b = some o) → (∃ o, h'.get? e = some o ∧ o.cls = .type "StopIteration") → E (.ref e) { s with heap := h' }
/-- StopIteration made and raised -/
theorem stop_hot {α : Type} {x1 : Addr} {Q : α → Shared → Prop} (hot : HotAt A x1 s.heap) (hE : Ended E s fun _ => False) :
    wpAny (model prog w) A (newExc (.type "StopIteration") []) (fun e s' => wpAny (model prog w) A (raiseNew e : Sem α) Q E s') E s := by
  simp only [newExc, newTuple]
  refine wpAny_bind (wpAny_newObj_type (wpAny_bind (m := firstArgMember _ _) (wpAny_of_eq (a := Value.none) rfl (wpAny_newObj_type ?_ (by size_fits)))) (by size_fits))
  have up : ∀ {c1 c2 : Obj} {b : Addr} {o : Obj}, s.heap.get? b = some o → ((s.heap.push c1).push c2).get? b = some o := fun e => Heap.get?_push_of_some _ (Heap.get?_push_of_some _ e)
  have far : ∀ c : Obj, x1 ≠ (s.heap.push c).objs.size := fun c => Nat.ne_of_lt (Nat.lt_of_lt_of_le hot.lt (by rw [Heap.size_push]; exact Nat.le_succ _))
  refine raiseNew_hot (hot.to fun o e => up e) (far _) (Heap.get?_push_size _ rfl) rfl (by simp only [Array.size_append]; simp; omega) ?_
  refine hE _ _ (fun b o _ e => ?_) ⟨_, Heap.get?_update_self _ (Heap.get?_push_size _ rfl) rfl, rfl⟩
  exact (Heap.get?_update_other _ _ (Nat.ne_of_gt (Heap.lt_size (Heap.get?_push_of_some _ e)))).trans (up e)
/-- behind the turn of a list's or tuple's iterator at its end: its sequence is let go, StopIteration is raised -/
theorem let_go {α : Type} {it l x1 : Addr} {i : Nat} {o : Obj} {f : Unit → Sem α} {Q : α → Shared → Prop} (hot : HotAt A x1 s.heap) (hn : x1 ≠ it) (ho : s.heap.get? it = some o) (hd : o.data = .fields #[.ref l, .int i 0]) (hE : Ended E s (· = it))
    (hf : f () = newExc (.type "StopIteration") [] >>= fun e => raiseNew e) : wpAny (model prog w) A (setField (.ref it) 0 .none >>= f) Q E s := by
  refine wpAny_bind (wpAny_setField ho hd (by simp) ?_)
  rw [hf]
  have sb : ∀ b u, b ≠ it → s.heap.get? b = some u → (s.heap.update it (Obj.mapFields (·.setIfInBounds 0 Value.none))).get? b = some u := fun b u hb q => (Heap.get?_update_other _ _ (Ne.symm hb)).trans q
  exact wpAny_bind (stop_hot (x1 := x1) (hot.to fun u e => sb _ u hn e) fun h' e k he => hE h' e (fun b u hb q => k b u id (sb b u hb q)) he)
theorem nextOf_list_end_hot {it l x1 : Addr} {i : Nat} {items} {Q : Value → Shared → Prop} (hot : HotAt A x1 s.heap) (hn : x1 ≠ it)
    (hit : s.heap.IsListIter it l i) (hl : s.heap.IsList l items) (hx : items[i]? = none) (hE : Ended E s (· = it)) :
    wpAny (model prog w) A (Builtin.SmallTypes.nextOf (.ref it)) Q E s := by
  obtain ⟨o, ho, hc, hd⟩ := id hit
  obtain ⟨ol, hol, _, nl, hdl⟩ := hl
  unfold Builtin.SmallTypes.nextOf
  have T := hit.typeIs
  refine wpAny_bind (wpAny_callSpecial?_slot T slot_listiter_next (wpAny_call_entry slot_listiter_next T entry_listiter_next ?_ (args_listiter_next _)))
  show wpAny _ _ (field _ 0 >>= _) _ _ _
  refine rd (x := .ref l) ho hd rfl ?_
  show wpAny _ _ (if (Value.ref l == Value.none) = true then _ else _) _ _ _
  rw [if_neg (show ¬ (Value.ref l == Value.none) = true from Bool.false_ne_true)]
  show wpAny _ _ (field _ 1 >>= _) _ _ _
  refine rd (x := .int i 0) ho hd rfl ?_
  show wpAny _ _ (seqItems? _ >>= _) _ _ _
  refine rs hol hdl ?_
  simp only [Int.toNat_natCast, hx]
  exact wpAny_bind (wpAny_rule (let_go (x1 := x1) hot hn ho hd hE rfl))
theorem next_tuple_end_hot {it t x1 : Addr} {i : Nat} {items} {Q : Option Value → Shared → Prop} (hot : HotAt A x1 s.heap) (hn : x1 ≠ it)
    (hit : IsTupIter s.heap it t i) (ht : IsTup s.heap t items) (hx : items[i]? = none)
    (hQ : ∀ h', Heap.ExtBut it s.heap h' → Q none { s with heap := h' }) : wpAny (model prog w) A (pyNext (.ref it)) Q E s := by
  obtain ⟨o, ho, hc, hd⟩ := id hit
  obtain ⟨ol, hol, _, nl, hdl⟩ := ht
  unfold pyNext
  have T := hit.typeIs
  refine wpAny_bind (wpAny_attempt (wpAny_callSpecial?_slot T slot_tupleiter_next (wpAny_call_entry slot_tupleiter_next T entry_tupleiter_next ?_ (args_tupleiter_next _))))
  show wpAny _ _ (field _ 0 >>= _) _ _ _
  refine rd (x := .ref t) ho hd rfl ?_
  show wpAny _ _ (if (Value.ref t == Value.none) = true then _ else _) _ _ _
  rw [if_neg (show ¬ (Value.ref t == Value.none) = true from Bool.false_ne_true)]
  show wpAny _ _ (field _ 1 >>= _) _ _ _
  refine rd (x := .int i 0) ho hd rfl ?_
  show wpAny _ _ (seqItems? _ >>= _) _ _ _
  refine rs hol hdl ?_
  simp only [Int.toNat_natCast, hx]
  refine wpAny_bind (wpAny_rule (let_go (x1 := x1) hot hn ho hd (fun h' e k he => ?_) rfl))
  obtain ⟨o', ho', hc'⟩ := he
  exact wpAny_bind (wpAny_isInstance ⟨o', ho', hc'⟩ isSubtype_stop (wpAny_pure (hQ _ fun b u hb q => k b u hb q)))
/-- (a, b) = t, t a tuple of two -/
theorem assign_pair_hot {env : Env} {elts : List Expr} {k1} {pos : Pos} {t x1 : Addr} {items : Array Value} {Q : Unit → Shared → Prop} (hot : HotAt A x1 s.heap) (ht : IsTup s.heap t items)
    (hn : (assignEach elts env).length = items.size) (hstar : (assignEach elts env).findIdx? (·.1) = none)
    (h : ∀ h', Heap.ExtBut s.heap.objs.size s.heap h' → wpAny (model prog w) A (assignInOrder ((assignEach elts env).map (·.2)) items.toList) Q E { s with heap := h' }) :
    wpAny (model prog w) A (assign (.Tuple elts k1 pos) env (.ref t)) Q E s := by
  obtain ⟨ot, hot', _⟩ := id ht
  have lt : t ≠ s.heap.objs.size := Nat.ne_of_lt (Heap.lt_size hot')
  have lx : x1 ≠ s.heap.objs.size := Nat.ne_of_lt hot.lt
  rw [assign_Tuple]
  refine wpAny_bind (wpAny_standAt ?_)
  unfold unpack unpackItems notIterableAtAll
  rw [hn, hstar]
  refine wpAny_bind (wpAny_holding (wpAny_bind (wpAny_bind (wpAny_specialOf ht.typeIs slot_tuple_iter.lookup (wpAny_pure ?_)))))
  simp only [Bool.false_eq_true, if_false]
  refine wpAny_bind (wpAny_holding (iter_tuple ht (wpAny_bind (wpAny_holding (draw_tuple lt items.size 0 _ _ ⟨_, Heap.get?_push_size _ rfl, rfl, rfl⟩ (ht.push _) (Nat.le_of_eq (Nat.zero_add _)) fun h1 i1 s1 => ?_)))))
  have all : (items.toList.drop 0).take items.size = items.toList := List.take_of_length_le (Nat.le_of_eq items.length_toList)
  rw [all, if_neg (by simp)]
  refine wpAny_bind (wpAny_holding (next_tuple_end_hot (x1 := x1) (hot.to fun o e => s1.extBut _ _ lx (Heap.get?_push_of_some _ e)) lx i1 ((ht.push _).extBut s1.extBut lt) (by simp) fun h2 e2 => ?_))
  simp only [Option.isSome_none, Bool.false_eq_true, if_false]
  exact wpAny_pure (h h2 fun b o hb e => e2 b o hb (s1.extBut b o hb (Heap.get?_push_of_some _ e)))
/-- the turn of a zip whose first list is at its end -/
theorem zip_end_hot {z TI TO i1 i2 l1 l2 x1 : Addr} {k1 : Nat} {xs : Array Value} {a b : Value} {Q : Option Value → Shared → Prop} (hot : HotAt A x1 s.heap) (n1 : x1 ≠ z) (n3 : x1 ≠ i1) (D : ZipApart z TI TO i1 i2 l1 l2)
    (hz : IsZip s.heap z TI TO .none) (hTI : IsPair s.heap TI (.ref i1) (.ref i2)) (hTO : IsPair s.heap TO a b) (h1 : s.heap.IsListIter i1 l1 k1) (hl1 : s.heap.IsList l1 xs) (hx : xs[k1]? = none)
    (hQ : ∀ h', (∀ c o, c ≠ z → c ≠ i1 → s.heap.get? c = some o → h'.get? c = some o) → Q none { s with heap := h' }) : wpAny (model prog w) A (pyNext (.ref z)) Q E s := by
  have T : s.TypeIs (.ref z) "zip" := ⟨_, hz, rfl⟩
  unfold pyNext
  refine wpAny_bind (wpAny_attempt (wpAny_callSpecial?_slot T F.slot_zip_next (wpAny_call_entry F.slot_zip_next T F.entry_zip_next ?_ (F.args_zip_next_1 _))))
  show wpAny _ _ (field _ 2 >>= _) _ _ _
  refine rd (x := .bool false) hz rfl rfl ?_
  show wpAny _ _ (field _ 3 >>= _) _ _ _
  refine rd (x := .ref TI) hz rfl rfl (rs hTI rfl ?_)
  show wpAny _ _ (Builtin.SmallTypes.ownedTupleIsFree _ >>= _) _ _ _
  unfold Builtin.SmallTypes.ownedTupleIsFree
  refine wpAny_bind (rd (x := .none) hz rfl rfl (wpAny_pure ?_))
  simp only [if_true]
  refine wpAny_bind (wpAny_rule (rd (x := .ref TO) hz rfl rfl (wpAny_bind (wpAny_setField_rec hz (by simp) fun g1 hz1 s1 => wpAny_bind ?_))))
  simp only [List.zipIdx_cons, List.zipIdx_nil, List.forIn_cons, List.forIn_nil]
  refine wpAny_bind (wpAny_bind (wpAny_onRaise ?_))
  show wpAny _ _ (Builtin.SmallTypes.nextOf (.ref i1) >>= _) _ _ _
  refine wpAny_bind (nextOf_list_end_hot (x1 := x1) (hot.to fun o e => s1.extBut _ _ n1 e) n3 (h1.extBut s1.extBut D.i1z) (hl1.extBut s1.extBut D.l1z) hx fun g2 e k he => ?_)
  obtain ⟨oe, hoe, hce⟩ := he
  have hz2 : IsZip g2 z TI TO .ellipsis := k _ _ D.i1z.symm hz1
  have hez : e ≠ z := fun q => by
    rw [q, hz2] at hoe
    cases hoe
    simp at hce
  refine wpAny_setField_rec hz2 (by simp) fun g3 _ s3 => wpAny_bind (wpAny_isInstance ⟨oe, s3.extBut _ _ hez hoe, hce⟩ isSubtype_stop (wpAny_pure (hQ g3 fun c o c1 c2 q => ?_)))
  exact s3.extBut _ _ c1 (k _ _ c2 (s1.extBut _ _ c1 q))
end
end HotX

/-! ## GHot2 -/
set_option Elab.async false
set_option linter.all false
set_option maxRecDepth 100000
set_option maxHeartbeats 2000000
/-! ### a comprehension over zip while an exception is handled; the second list is at least as long as the first -/
namespace L2Z
open PySem PySem.Spec PyProof.Rows L2 L2H HotX
abbrev St := L2.St
/-- the five objects of a zip of the lists at a and b, behind i turns -/
structure Zp (a b z TI TO i1 i2 : Addr) (i : Nat) (h : Heap) : Prop where
  z : IsZip h z TI TO .none
  ti : IsPair h TI (.ref i1) (.ref i2)
  out : ∃ x y, IsPair h TO x y
  fst : h.IsListIter i1 a i
  snd : h.IsListIter i2 b i
abbrev five (z TI TO i1 i2 : Addr) : List Addr := [z, TI, TO, i1, i2]
theorem five_of {z TI TO i1 i2 c : Addr} {P : Addr → Prop} (h : c ∈ five z TI TO i1 i2) (p1 : P z) (p2 : P TI) (p3 : P TO) (p4 : P i1) (p5 : P i2) : P c := by
  simp only [List.mem_cons, List.not_mem_nil, or_false] at h
  rcases h with rfl | rfl | rfl | rfl | rfl
  · exact p1
  · exact p2
  · exact p3
  · exact p4
  · exact p5
theorem five_ne {z TI TO i1 i2 c : Addr} (h : c ∉ five z TI TO i1 i2) : c ≠ z ∧ c ≠ TI ∧ c ≠ TO ∧ c ≠ i1 ∧ c ≠ i2 := by
  simpa only [List.mem_cons, List.not_mem_nil, or_false, not_or] using h
section
variable {a b z TI TO i1 i2 : Addr} {i : Nat} {h h' : Heap}
theorem Zp.obj (q : Zp a b z TI TO i1 i2 i h) : ∀ c ∈ five z TI TO i1 i2, ∃ o, h.get? c = some o ∧ ∀ v, o.data ≠ .cell v := by
  obtain ⟨hz, hT, ⟨x, y, hO⟩, ⟨o1, e1, _, d1⟩, ⟨o2, e2, _, d2⟩⟩ := q
  intro c hc
  refine five_of (P := fun c => ∃ o, h.get? c = some o ∧ ∀ v, o.data ≠ .cell v) hc ⟨_, hz, fun v => nofun⟩ ⟨_, hT, fun v => nofun⟩ ⟨_, hO, fun v => nofun⟩ ⟨o1, e1, fun v e => ?_⟩ ⟨o2, e2, fun v e => ?_⟩
  · rw [d1] at e; cases e
  · rw [d2] at e; cases e
theorem Zp.keep (q : Zp a b z TI TO i1 i2 i h) (k : ∀ c ∈ five z TI TO i1 i2, ∀ o, h.get? c = some o → h'.get? c = some o) : Zp a b z TI TO i1 i2 i h' := by
  obtain ⟨hz, hT, ⟨x, y, hO⟩, h1, h2⟩ := q
  exact ⟨k z (by simp) _ hz, k TI (by simp) _ hT, ⟨x, y, k TO (by simp) _ hO⟩, h1.at fun o e => k i1 (by simp) o e, h2.at fun o e => k i2 (by simp) o e⟩
end
section
variable {X : Cx} {pins : List (Addr × Obj)} {σ : St} {H : Hp} {s : Shared} {a b z TI TO i1 i2 : Addr} {i : Nat} {xs ys : List V}
/-- a turn that yields: the pair of both items, a new tuple -/
theorem zip_yields {E : Value → Shared → Prop} {elts : List Expr} {kk : Nat} {tpos : Pos} {x y : V} {Q : Addr → Shared → Prop} (D : ZipApart z TI TO i1 i2 a b) (I : Inv X pins σ H s) (hf : ∀ c ∈ five z TI TO i1 i2, FpOk X pins H c) (q : Zp a b z TI TO i1 i2 i s.heap)
    (ha : SqL X.K H a xs) (hb : SqL X.K H b ys) (hx : xs[i]? = some x) (hy : ys[i]? = some y)
    (k : ∀ T s', H T = none → Inv X pins σ (upd H T (.tup [x, y])) s' → Zp a b z TI TO i1 i2 (i + 1) s'.heap → (∀ c ∈ five z TI TO i1 i2, upd H T (.tup [x, y]) c = none) → Q T s') :
    wpAny (model X.prog X.w) X.A (pyNext (.ref z)) (fun r s1 => ∃ T, r = some (.ref T) ∧ wpAny (model X.prog X.w) X.A (letOwnedTupleGo (.Tuple elts kk tpos) (.ref z) (.ref T)) (fun _ s2 => Q T s2) E s1) E s := by
  obtain ⟨us, ra, pa, _⟩ := I.list ha
  obtain ⟨vs, rb, pb, _⟩ := I.list hb
  obtain ⟨u, hu, ru⟩ := ra.get hx
  obtain ⟨v, hv, rv⟩ := rb.get hy
  obtain ⟨hz, hT, ⟨x0, y0, hO⟩, h1, h2⟩ := id q
  have zl := Heap.lt_size hz
  have lt : ∀ c ∈ five z TI TO i1 i2, c < s.heap.objs.size := fun c hc => let ⟨_, e, _⟩ := q.obj c hc; Heap.lt_size e
  refine wpAny_pyNext_zip_item D hz hT hO h1 h2 pa.isList pb.isList (x := u) (y := v) (by simpa using hu) (by simpa using hv) fun g gz gO g1 g2 gT _ gk => ⟨_, rfl, ?_⟩
  refine wpAny_letOwnedTupleGo_zip (s := { s with heap := g }) gz fun f fz sb => ?_
  have up : ∀ c o, c ≠ z → g.get? c = some o → f.get? c = some o := fun c o n e => (sb.2 c n).trans e
  have free : H s.heap.objs.size = none := I.hok.fresh (Nat.le_refl _)
  have tup : ObjOk X.prog X.w (upd H s.heap.objs.size (.tup [x, y])) f s.heap.objs.size (.tup [x, y]) := ⟨show 2 ≤ sizeLine by decide, [u, v], .cons ru (.cons rv .nil), _, up _ _ (Nat.ne_of_gt zl) gT, rfl, _, rfl⟩
  refine k s.heap.objs.size _ free (I.turnedNew (h' := f) (t' := s.toks) (ch := five z TI TO i1 i2) (fun c o hc e => ?_) hf (Nat.le_refl _) tup) ⟨fz, ?_, ⟨u, v, up _ _ D.TOz gO⟩, g1.at fun o e => up _ o D.i1z e, g2.at fun o e => up _ o D.i2z e⟩ fun c hc => ?_
  · obtain ⟨c1, c2, c3, c4, c5⟩ := five_ne hc
    exact up c o c1 (gk c o c1 c3 c4 c5 e)
  · exact up _ _ D.TIz (gk _ _ D.TIz D.TITO D.TIi1 D.TIi2 hT)
  · rw [upd_ne (Nat.ne_of_lt (lt c hc))]
    exact (hf c hc).1
/-- the turn at the end -/
theorem zip_stops {E : Value → Shared → Prop} {x1 : Addr} (D : ZipApart z TI TO i1 i2 a b) (hot : HotAt X.A x1 s.heap) (far : ∀ c ∈ five z TI TO i1 i2, x1 ≠ c) (I : Inv X pins σ H s) (hf : ∀ c ∈ five z TI TO i1 i2, FpOk X pins H c) (q : Zp a b z TI TO i1 i2 i s.heap)
    (ha : SqL X.K H a xs) (hx : xs.length ≤ i) : wpAny (model X.prog X.w) X.A (pyNext (.ref z)) (fun r s1 => r = none ∧ Inv X pins σ H s1) E s := by
  obtain ⟨us, ra, pa, _⟩ := I.list ha
  obtain ⟨hz, hT, ⟨x0, y0, hO⟩, h1, _⟩ := q
  have hl := ra.length
  refine zip_end_hot (x1 := x1) hot (far z (by simp)) (far i1 (by simp)) D hz hT hO h1 pa.isList (by simp; omega) fun g gk => ⟨rfl, ?_⟩
  exact I.turnedL (t' := s.toks) (ch := five z TI TO i1 i2) (fun c o hc e => gk c o (five_ne hc).1 (five_ne hc).2.2.2.1 e) hf
/-- zip(a, b) made and asked for its iterator -/
theorem zip_made {e e2 : Expr} {ta : TA} {p pos : Pos} {R : Addr → Addr → List V → List V → Hp → Prop} (hg : Gl X "zip") (hm : X.mg "zip" = none) (harg : PA X [e, e2] ta) (I : Inv X pins σ H s)
    (h : ta σ H fun vs H1 => ∃ a b xs ys, vs = [.ref a, .ref b] ∧ SqL X.K H1 a xs ∧ SqL X.K H1 b ys ∧ R a b xs ys H1)
    (hs : starEach [e, e2] X.env = (false, eval e X.env) :: starEach [e2] X.env := by rfl) (hpl : (backTo pos (starEach [e2] X.env)).any (·.1) = false := by rfl) :
    wpAny (model X.prog X.w) X.A (eval (.Call (.Name "zip" p) [e, e2] [] pos) X.env) (fun v s1 => wpAny (model X.prog X.w) X.A (pyIter v) (fun itv s2 => ∃ a b xs ys z TI TO i1 i2 H', itv = .ref z ∧ SqL X.K H' a xs ∧ SqL X.K H' b ys ∧ Inv X pins σ H' s2 ∧ ZipApart z TI TO i1 i2 a b ∧ Zp a b z TI TO i1 i2 0 s2.heap ∧
      (∀ c ∈ five z TI TO i1 i2, FpOk X pins H' c) ∧ R a b xs ys H') X.xe s1) X.xe s := by
  refine Call_ (ld_blt I hg hm PyProof.Rows.boot_zip (PyProof.Rows.callWith_type1 (thn (harg.run pos pins s σ H _ I h) fun us s1 ⟨vs, H1, I1, r1, a, b, xs, ys, ev, ha, hb, q⟩ => ?_) hs hpl))
  subst ev
  obtain ⟨u1, u2, rfl, e1, e2⟩ := vals2 r1
  cases (show u1 = Value.ref a from e1)
  cases (show u2 = Value.ref b from e2)
  obtain ⟨_, _, pa, _⟩ := I1.list ha
  obtain ⟨_, _, pb, _⟩ := I1.list hb
  refine call_zip_2 pa.isList pb.isList fun g gz gT gO g1 g2 _ gk => wpAny_pyIter_zip gz ?_
  have n0 := s1.heap.objs.size.le_refl
  refine ⟨a, b, xs, ys, _, _, _, _, _, H1, rfl, ha, hb, I1.kept (t' := s1.toks) gk, PySem.W.ktu_apart _ a b pa.lt pb.lt, ⟨gz, gT, ⟨_, _, gO⟩, g1, g2⟩, fun c hc => ?_, q⟩
  have le : s1.heap.objs.size ≤ c := five_of (P := fun c => s1.heap.objs.size ≤ c) hc (Nat.le_add_right _ _) (Nat.le_add_right _ _) (Nat.le_add_right _ _) n0 (Nat.le_add_right _ _)
  exact (I1.kept (t' := s1.toks) gk).kept (t' := s1.toks) (fun _ _ e => e) |> fun _ => I1.fpOk le (I1.hok.fresh le)
end
/-- a block that keeps the pins of the context around it -/
abbrev _root_.L2.Cx.blkZ (X : Cx) (s : Shared) (H : Hp) (scope : Scope) (cenv : Env) (fp : List Addr) : Cx := { X.blk s H scope cenv fp with pn := X.pn }
/-- what such a comprehension asks: the walk over the pairs, D the new list -/
def tLcZ (K : PySem.W.Frag) (ta : TA) (g : TG) (tt : TT) (te : TE) (vs : List Nat) : TE := fun σ H Q => ta σ H fun us H1 => ∃ a b xs ys, us = [.ref a, .ref b] ∧ SqL K H1 a xs ∧ SqL K H1 b ys ∧ xs.length ≤ ys.length ∧ ∀ D, H1 D = none →
  ∃ W : Nat → Hp → Prop, W 0 (upd H1 D (.lst [])) ∧ (∀ i H, W i H → SqL K H a xs ∧ SqL K H b ys) ∧ (∀ H, W xs.length H → Q (.ref D) H) ∧
    ∀ i x y T H, W i H → xs[i]? = some x → ys[i]? = some y → H T = none → g (.ref T) (wipe σ vs) (upd H T (.tup [x, y])) fun σ2 H2 => wipe σ2 vs = wipe σ vs ∧ tt σ2 H2 fun b H3 =>
      if b = true then te σ2 H3 fun w H4 => ∃ acc, H4 D = some (.lst acc) ∧ acc.length < sizeLine ∧ W (i + 1) (upd H4 D (.lst (acc ++ [w]))) else W (i + 1) H3
section
variable {X : Cx} {pins : List (Addr × Obj)} {σ : St} {H : Hp} {s : Shared}
theorem block_startZ {scope : Scope} {own : List (Str × Nat)} {fp : List Addr} (I : Inv X pins σ H s) (ok : BlkOk X.N X.env.scope scope own) (hN : X.N.Nodup) (hfp : ∀ b ∈ fp, FpOk X pins H b ∧ b < s.heap.objs.size) :
    Inv (X.blkZ s H scope (compEnvC scope (cellsFrom (s.heap.objs.size + 1) scope.names (cloFrom X.env.cells scope.names [])) s.heap.objs.size X.env) fp) [] (wipe σ (own.map (·.2))) H { s with heap := pushCells (s.heap.push { cls := .type "dict", data := .dict #[] }) scope.names } := by
  have J := block_start I ok hN hfp
  have O := J.ok
  refine ⟨⟨O.mod, O.kind, O.glob, O.blt, O.above, O.inj, O.has, O.cab, O.hd, O.frames, O.stk, O.exf, O.bs, O.bsz, O.noex, O.exfs, O.funs, O.frf⟩, J.os, J.bare, J.base, J.loc, J.cell, J.free, J.freeC, fun p hp => ?_, J.hok, J.len⟩
  obtain ⟨e, n, ne, nf, d⟩ := I.pin p (List.mem_append_left _ (by rwa [List.append_nil] at hp))
  exact ⟨pushCells_keeps _ _ _ _ (Heap.get?_push_of_some _ e), n, Nat.ne_of_lt (Heap.lt_size e), fun hb => (List.mem_cons.mp (I.stkSub _ hb)).elim ne nf, d⟩
/-- a new empty list -/
theorem newList {h0 : Heap} (I : Inv X pins σ H s) (e : s.heap = h0) : Inv X pins σ (upd H h0.objs.size (.lst [])) { s with heap := h0.push { cls := .type "list", data := .seq ([] : List Value).toArray } } := by
  subst e
  exact I.laid (t' := s.toks) (fun b o e => Heap.get?_push_of_some _ e) (Nat.le_refl _) ⟨Nat.zero_le _, [], 0, .nil, Heap.get?_push_size _ rfl⟩
/-- the loop of the block: Y its context, R what is wanted behind it -/
theorem zip_loop {elt : Expr} {iter : Expr} {elts : List Expr} {kk : Nat} {tpos pos : Pos} {ifs : List Expr} {scope scp : Scope} {ce : Env} {vs : List Nat} {g : TG} {tt : TT} {te : TE} {a b z TI TO i1 i2 D x1 : Addr} {xs ys : List V} {s3 s4 : Shared} {H3 : Hp} {W : Nat → Hp → Prop} {R : Shared → Prop}
    (hot : ∀ h : Heap, (∀ p ∈ X.pn, h.get? p.1 = some p.2) → HotAt X.A x1 h) (hp : ∃ p ∈ X.pn, p.1 = x1) (far : ∀ c ∈ five z TI TO i1 i2, ∀ p ∈ X.pn, p.1 ≠ c) (ap : ZipApart z TI TO i1 i2 a b) (hle : xs.length ≤ ys.length)
    (pg : PG (X.blkZ s3 H3 scope ce (five z TI TO i1 i2)) (.Tuple elts kk tpos) g) (pt : PTs (X.blkZ s3 H3 scope ce (five z TI TO i1 i2)) ifs tt) (pe : PE (X.blkZ s3 H3 scope ce (five z TI TO i1 i2)) elt te)
    (I4 : Inv (X.blkZ s3 H3 scope ce (five z TI TO i1 i2)) [] (wipe σ vs) H3 s4) (z4 : Zp a b z TI TO i1 i2 0 s4.heap) (n4 : ∀ c ∈ five z TI TO i1 i2, H3 c = none) (w0 : W 0 H3) (hW : ∀ i H, W i H → SqL X.K H a xs ∧ SqL X.K H b ys)
    (hR : ∀ s' H', Inv (X.blkZ s3 H3 scope ce (five z TI TO i1 i2)) [] (wipe σ vs) H' s' → W xs.length H' → R s')
    (step : ∀ i x y T H, W i H → xs[i]? = some x → ys[i]? = some y → H T = none → g (.ref T) (wipe σ vs) (upd H T (.tup [x, y])) fun σ2 H2 => wipe σ2 vs = wipe σ vs ∧ tt σ2 H2 fun b H3 =>
      if b = true then te σ2 H3 fun w H4 => ∃ acc, H4 D = some (.lst acc) ∧ acc.length < sizeLine ∧ W (i + 1) (upd H4 D (.lst (acc ++ [w]))) else W (i + 1) H3) :
    codeAny (model X.prog X.w) X.A (.compLoop (.ListComp elt [⟨.Tuple elts kk tpos, iter, ifs, 0⟩] scp pos) 0 (.ref z) (.ref D) ce) (fun r s' => match r with | .ok .next => R s' | _ => False) s4 := by
  generalize hY : X.blkZ s3 H3 scope ce (five z TI TO i1 i2) = Y at pg pt pe I4 hR
  have pnY : Y.pn = X.pn := by rw [← hY]
  have exY : Y.ex = five z TI TO i1 i2 := by rw [← hY]
  obtain ⟨eP, ew, eK, eA⟩ : Y.prog = X.prog ∧ Y.w = X.w ∧ Y.K = X.K ∧ Y.A = X.A := by subst hY; exact ⟨rfl, rfl, rfl, rfl⟩
  have eE : Y.env = ce := by rw [← hY]
  have eX : Y.xe = fun _ _ => False := by rw [← hY]
  have own5 : ∀ {σ' : St} {H' : Hp} {s' : Shared}, Inv Y [] σ' H' s' → (∀ c ∈ five z TI TO i1 i2, H' c = none) → ∀ c ∈ five z TI TO i1 i2, FpOk Y [] H' c := fun {σ' H' s'} J n c hc => by
    have hx : c ∈ Y.ex := by rw [exY]; exact hc
    exact ⟨n c hc, (J.ok.exf c hx).1, J.ok.exfs c hx, .inl hx, (J.ok.exf c hx).2, fun p hp => far c hc p (by rwa [List.append_nil, pnY] at hp)⟩
  refine compLoop_any (fun n s' => ∃ i H', n = xs.length - i ∧ i ≤ xs.length ∧ Inv Y [] (wipe σ vs) H' s' ∧ Zp a b z TI TO i1 i2 i s'.heap ∧ (∀ c ∈ five z TI TO i1 i2, H' c = none) ∧ W i H') ?_ xs.length ⟨0, H3, rfl, Nat.zero_le _, I4, z4, n4, w0⟩
  rintro n s5 ⟨i, H5, rfl, hi, I5, z5, n5, w5⟩
  obtain ⟨qa, qb⟩ := hW i H5 w5
  have qa' := qa
  have qb' := qb
  rw [← eK] at qa' qb'
  rw [← eP, ← ew, ← eA]
  by_cases lt : i < xs.length
  · have gx := List.getElem?_eq_getElem lt
    have gy := List.getElem?_eq_getElem (Nat.lt_of_lt_of_le lt hle)
    have item := zip_yields (X := Y) (E := fun _ _ => False) (elts := elts) (kk := kk) (tpos := tpos) (Q := fun T s' => H5 T = none ∧ Inv Y [] (wipe σ vs) (upd H5 T (.tup [xs[i], ys[i]'(Nat.lt_of_lt_of_le lt hle)])) s' ∧ Zp a b z TI TO i1 i2 (i + 1) s'.heap ∧ ∀ c ∈ five z TI TO i1 i2, upd H5 T (.tup [xs[i], ys[i]'(Nat.lt_of_lt_of_le lt hle)]) c = none)
      ap I5 (own5 I5 n5) z5 qa' qb' gx gy fun T s' h1 h2 h3 h4 => ⟨h1, h2, h3, h4⟩
    refine thnF item fun r s6 hr => ?_
    obtain ⟨T, rfl, h6⟩ := hr
    refine thnF h6 fun _ s7 h7 => ?_
    obtain ⟨nT, I7, z7, n7⟩ := h7
    have st := step i _ _ T H5 w5 gx gy nT
    have run1 := pg.run _ s7 _ _ (.ref T) (.ref T) _ (I7.pinned (own5 I7 n7) z7.obj) rfl st
    rw [eE, eX] at run1
    refine thnF run1 fun _ s8 h8 => ?_
    obtain ⟨σ8, H8, I8, hw8, q8⟩ := h8
    have run2 := pt.run _ s8 σ8 H8 _ I8 q8
    rw [eE, eX] at run2
    refine thnF run2 fun cc s9 h9 => ?_
    obtain ⟨H9, I9, q9⟩ := h9
    have again : ∀ {s' : Shared} {H' : Hp}, Inv Y ([] ++ pinsAt (five z TI TO i1 i2) s7.heap) σ8 H' s' → W (i + 1) H' → ∃ m, m < xs.length - i ∧ ∃ j H', m = xs.length - j ∧ j ≤ xs.length ∧ Inv Y [] (wipe σ vs) H' s' ∧ Zp a b z TI TO i1 i2 j s'.heap ∧ (∀ c ∈ five z TI TO i1 i2, H' c = none) ∧ W j H' := fun {s' H'} J w => by
      have pin : ∀ c ∈ five z TI TO i1 i2, ∀ o, s7.heap.get? c = some o → s'.heap.get? c = some o ∧ H' c = none := fun c hc o e =>
        have P := J.pin (c, o) (List.mem_append_right _ (List.mem_append_right _ (mem_pinsAt hc e)))
        ⟨P.1, P.2.1⟩
      have back : Inv Y [] (wipe σ vs) H' s' := (J.unpinned (pins := [])).weak (by rw [← hw8, wipe_length]) fun j v e => (wipe_some (hw8 ▸ e)).1
      refine ⟨xs.length - (i + 1), by omega, i + 1, H', rfl, lt, back, z7.keep fun c hc o e => (pin c hc o e).1, fun c hc => ?_, w⟩
      obtain ⟨o, e, _⟩ := z7.obj c hc
      exact (pin c hc o e).2
    cases cc with
    | false =>
      rw [if_neg Bool.false_ne_true] at q9 ⊢
      exact again I9 q9
    | true =>
      rw [if_pos rfl] at q9 ⊢
      have run3 := pe.run _ s9 σ8 H9 _ I9 q9
      rw [eE, eX] at run3
      refine thnF run3 fun u s10 h10 => ?_
      obtain ⟨y, H10, I10, r10, acc, hD, hz, w⟩ := h10
      exact app_ok I10 hD hz r10 fun s11 J => again J w
  · have e : i = xs.length := by omega
    subst e
    have hh : HotAt Y.A x1 s5.heap := by
      rw [eA]
      exact hot _ fun p hp => (I5.pin p (List.mem_append_left _ (by rwa [pnY]))).1
    refine thnF (zip_stops (X := Y) (E := fun _ _ => False) ap hh (fun c hc => ?_) I5 (own5 I5 n5) z5 qa' (Nat.le_refl _)) fun r s6 h6 => ?_
    · obtain ⟨p, hp, rfl⟩ := hp
      exact far c hc p hp
    · obtain ⟨rfl, I6⟩ := h6
      exact hR s6 H5 I6 w5
theorem pe_lcZ {elt e1 e2 : Expr} {elts : List Expr} {kk : Nat} {tpos zp zpos : Pos} {ifs : List Expr} {scope : Scope} {own : List (Str × Nat)} {pos : Pos} {ta : TA} {g : TG} {tt : TT} {te : TE} (hc : HotC X) (hN : X.N.Nodup) (hgz : Gl X "zip") (hmz : X.mg "zip" = none) (harg : PA X [e1, e2] ta) (ok : BlkOk X.N X.env.scope scope own)
    (hg : ∀ (s : Shared) (H : Hp) (C : Addr) (cl : List (Str × Addr)) (fp : List Addr), PG (X.blkZ s H scope (compEnvC scope cl C X.env) fp) (.Tuple elts kk tpos) g) (ht : ∀ (s : Shared) (H : Hp) (C : Addr) (cl : List (Str × Addr)) (fp : List Addr), PTs (X.blkZ s H scope (compEnvC scope cl C X.env) fp) ifs tt)
    (he : ∀ (s : Shared) (H : Hp) (C : Addr) (cl : List (Str × Addr)) (fp : List Addr), PE (X.blkZ s H scope (compEnvC scope cl C X.env) fp) elt te)
    (hs : starEach [e1, e2] X.env = (false, eval e1 X.env) :: starEach [e2] X.env := by rfl) (hpl : (backTo zpos (starEach [e2] X.env)).any (·.1) = false := by rfl)
    (hfs : ∀ x, foldedSetIterable (.Call (.Name "zip" zp) [e1, e2] [] zpos) X.env x = pure x := by intro _; rfl) :
    PE X (.ListComp elt [⟨.Tuple elts kk tpos, .Call (.Name "zip" zp) [e1, e2] [] zpos, ifs, 0⟩] scope pos) (tLcZ X.K ta g tt te (own.map (·.2))) := by
  refine ⟨fun pins s σ H Q I h => ?_⟩
  obtain ⟨px, ⟨hh, v1, c1, c2⟩, hpx⟩ := hc
  have caught : ∀ y ∈ scope.names, y.2 = .free → ∃ c, X.env.cells.lookup y.1 = some c := fun y hy e => (ok.free y hy e).elim (fun k => I.ok.has _ (.inl k)) fun k => I.ok.has _ (.inr k)
  refine eval_ListComp .. ▸ ?_
  refine wpAny_comprehension_free (use := none) rfl hfs (closure_ok caught) ok.kind (fun y hy e => by rw [ok.uniq y hy, e]) (thn (zip_made hgz hmz harg I h hs hpl) fun xv s1 hx => thn hx fun itv s2 h2 => ?_)
  obtain ⟨a, b, xs, ys, z, TI, TO, i1, i2, H2, rfl, ha, hb, I2, D, zp2, f2, hle, q⟩ := h2
  refine wpAny_newObj_type (newEnv_comp ?_) (Nat.zero_le _)
  have free : H2 s2.heap.objs.size = none := I2.hok.fresh (Nat.le_refl _)
  obtain ⟨W, w0, hW, hQ, step⟩ := q _ free
  have I3 := newList I2 rfl
  generalize hD : s2.heap.objs.size = Da at *
  have lt : ∀ c ∈ five z TI TO i1 i2, c < s2.heap.objs.size := fun c hc => let ⟨_, e, _⟩ := zp2.obj c hc; Heap.lt_size e
  have f3 : ∀ c ∈ five z TI TO i1 i2, FpOk X pins (upd H2 Da (.lst [])) c ∧ c < (s2.heap.push { cls := .type "list", data := .seq ([] : List Value).toArray }).objs.size := fun c hc => by
    refine ⟨⟨?_, (f2 c hc).2⟩, by rw [Heap.size_push]; exact Nat.lt_succ_of_lt (lt c hc)⟩
    rw [upd_ne (by rw [← hD]; exact Nat.ne_of_lt (lt c hc))]
    exact (f2 c hc).1
  have I4 := block_startZ I3 ok hN f3
  have h3 : (s2.heap.push { cls := .type "list", data := .seq ([] : List Value).toArray }).objs.size = Da + 1 := by rw [Heap.size_push, hD]
  have up : ∀ {c : Addr} {o : Obj}, s2.heap.get? c = some o → (pushCells ((s2.heap.push { cls := .type "list", data := .seq ([] : List Value).toArray }).push { cls := .type "dict", data := .dict #[] }) scope.names).get? c = some o := fun e => pushCells_keeps _ _ _ _ (Heap.get?_push_of_some _ (Heap.get?_push_of_some _ e))
  have loop := zip_loop (X := X) (σ := σ) (x1 := px.1) (R := fun s' => ∃ m H', Inv X pins σ H' s' ∧ Q (.ref Da) H' ∧ s'.heap.Ns (s2.heap.push { cls := .type "list", data := .seq ([] : List Value).toArray }).objs.size m ∧ FpOk X pins H' (s2.heap.push { cls := .type "list", data := .seq ([] : List Value).toArray }).objs.size)
    (elt := elt) (iter := .Call (.Name "zip" zp) [e1, e2] [] zpos) (elts := elts) (kk := kk) (tpos := tpos) (pos := pos) (scp := scope) (D := Da)
    (fun h hp => ⟨hh, px.2, v1, hp px hpx, c1, c2⟩) ⟨px, hpx, rfl⟩ (fun c hc p hp => (f3 c hc).1.2.2.2.2.2 p (List.mem_append_left _ hp)) D hle (hg _ _ _ _ _) (ht _ _ _ _ _) (he _ _ _ _ _) I4
    (zp2.keep fun c _ o e => up e) (fun c hc => (f3 c hc).1.1) w0 hW (fun s6 H6 J w => ?_) step
  · have post : ∀ r s', (match r with | .ok .next => (∃ m H', Inv X pins σ H' s' ∧ Q (.ref Da) H' ∧ s'.heap.Ns (s2.heap.push { cls := .type "list", data := .seq ([] : List Value).toArray }).objs.size m ∧ FpOk X pins H' (s2.heap.push { cls := .type "list", data := .seq ([] : List Value).toArray }).objs.size) | _ => False) →
        compPost (model X.prog X.w) X.A X.xe none (EP X pins σ Q) (.ref Da) (s2.heap.push { cls := .type "list", data := .seq ([] : List Value).toArray }).objs.size r s' := fun r s' hr => by
      rcases r with e | f
      · exact hr.elim
      · cases f with
        | next =>
          obtain ⟨m, H', J, w, n, f0, f1, f2, f3, f4, f5⟩ := hr
          exact ⟨m, n, fun g sb => ⟨.ref Da, H', J.turned (t' := s'.toks) (fun c o hc e => (sb.2 c hc).trans e) f0 f1 f3 f4 f5, rfl, w⟩⟩
        | brk => exact hr.elim
        | cont => exact hr.elim
        | ret v => exact hr.elim
    exact codeAny_compStart_list (codeAny_mono loop post) (wpAny_pyIter_zip (zp2.keep fun c _ o e => up e).z (codeAny_mono loop post))
  · obtain ⟨m, n, _⟩ := J.loc
    exact ⟨m, H6, I3.call' (ch := five z TI TO i1 i2) J.os J.base J.hok J.bare fun c hc => ⟨(f3 c hc).1.2.2.2.1, (f3 c hc).1.2.1, (f3 c hc).1.2.2.2.2.1, (f3 c hc).1.2.2.2.2.2⟩, hQ H6 w, n, I3.fpOk (Nat.le_refl _) J.free⟩
/-- (x, y) = a pair, while an exception is handled -/
theorem pg_tupZ {pos : Pos} {es : List Expr} {k : Nat} {t : TGs} {n : Nat} (hc : HotC X) (h : PGs X es t)
    (hn : (assignEach es X.env).length = n := by rfl) (hst : (assignEach es X.env).findIdx? (·.1) = none := by rfl) : PG X (.Tuple es k pos) (gTup X.K n t) := by
  refine ⟨fun pins s σ H v u Q I r ⟨a, xs, ev, hq, hl, w⟩ => ?_⟩
  subst ev
  cases (show u = Value.ref a from r)
  obtain ⟨us, rv, ht, _⟩ := I.tuple hq
  obtain ⟨x1, hot⟩ := hc.at I
  exact assign_pair_hot hot ht (by simp [hn, ← hl, rv.length]) hst fun g gx => h.run pins _ σ H xs _ Q (I.kept (t' := s.toks) fun b o e => gx b o (Nat.ne_of_lt (Heap.lt_size e)) e) (by simpa using rv) w
theorem hotC_of {Y : Cx} {a : Addr} {oe : Obj} {cls : Value} {d : Option Addr} (hz : L2N.Zn cls d oe) (hf : ∃ vs, oe.data = .fields vs) (h1 : Y.A.handled = some (.ref a)) (h2 : (a, oe) ∈ Y.pn) : HotC Y := by
  obtain ⟨vs, hv⟩ := hf
  exact ⟨(a, oe), ⟨h1, vs, hv, hz.2.2 vs hv⟩, h2⟩
/-- isinstance(e, c) in a suite, whatever was caught -/
def rIsX (K : PySem.W.Frag) (cls : Value) (d : Option Addr) (a : Addr) : List V → Hp → VK → Prop := fun xs H Q => ∃ D, cls = .ref D ∧ d = none ∧ ExcC K D ∧ rIsE K D a xs H Q
theorem call_isK {K : PySem.W.Frag} {a : Addr} {oe : Obj} {cls : Value} {d : Option Addr} {pn : List (Addr × Obj)} (hK : X.K = K) (hz : L2N.Zn cls d oe) (hf : ∃ vs, oe.data = .fields vs) : CallR (X.suite a ((a, oe) :: pn)) (.builtin "isinstance") (rIsX K cls d a) := by
  subst hK
  intro pins s σ H xs us Q I r ⟨D, e1, e2, C, h⟩
  subst e1 e2
  exact call_isE C hz.zc hf pins s σ H xs us Q I r h
end
/-! ### methods in a try's body: what is raised is wished for at the slots; keywords -/
section
variable {X : Cx} {CX : CXT} {k n : Nat} {f C : Addr} {fd : FuncData} {ps ks : List Str} {sp : Sp} {dvs : List V} {ds : List Value} {E : L2.St → XK} {m : Str} {pos apos : Pos} {e o : Expr} {es : List Expr} {kws : List Keyword} {ta : TE} {t tk : TA} {g : List Value → List Value → List Value} {gV : List V → List V → List V}
def tMethSD (C : Addr) (m : Str) (sp : Sp) (dvs : List V) (E : L2.St → XK) (ta : TE) (t : TA) : TE := fun σ H Q => ta σ H fun x H1 => ∃ a dx fs, x = .ref a ∧ H1 a = some (.ins C dx fs) ∧ fs.lookup m = none ∧
  t σ H1 fun vs H2 => sp (x :: (vs ++ dvs)) H2 Q (E σ)
/-- how a method's call is evaluated -/
def MethEv (X : Cx) (o : Expr) (m : Str) (apos : Pos) (es : List Expr) (kws : List Keyword) (pos : Pos) (pl : Sem Bool) : Prop := eval (.Call (.Attribute o m apos) es kws pos) X.env = (do
  let ov ← eval o X.env
  standAt apos.atName
  let (f, first) ← holding [ov] (getMethod ov m pl)
  callWith pos f first (backTo pos (starEach es X.env)) (backToKw pos (keywordEach kws X.env)))
theorem pe_methSD {pl : Sem Bool} (he : PE X o ta) (c : Cls X.K C) (hm : Meth X.K C m f) (F : FnOk X.prog X.w X.K X.mg X.base CX k f fd ps sp) (hr : Room k X.A) (hb : Binds X.K fd ps ds) (hd : Vals dvs ds) (hx : ∀ σ, PassesAt CX X σ (E σ)) (ha : PA X (e :: es) t)
    (hst : starEach (e :: es) X.env = (false, eval e X.env) :: starEach es X.env := by rfl) (hpl : (backTo pos (starEach es X.env)).any (·.1) = false := by rfl) (ht : MethEv X o m apos (e :: es) [] pos pl := by rfl) :
    PE X (.Call (.Attribute o m apos) (e :: es) [] pos) (tMethSD C m sp dvs E ta t) :=
  ⟨fun pins s σ H Q I h => PySem.W.methodCall_KW (pl := pl) (thn (he.run pins s σ H _ I h) fun u s1 ⟨x, H1, I1, rx, a, dx, fs, ex, ea, l, q⟩ => by
    subst ex
    cases (show u = Value.ref a from rx)
    exact getmeth_ok I1 ea c hm l (PySem.W.callWith_K (first := [.ref a]) I.ok.mod.kin hm.kp (thn (ha.run pos pins s1 σ H1 _ I1 q) fun us s2 ⟨vs, H2, I2, r, w⟩ => ⟨I2.kIn, run_fnSD (us := .ref a :: us) (vs := .ref a :: vs) F hr hb hd (hx σ) I2 (.cons rfl r) w⟩) hst hpl)) ht⟩
/-- as the library's run_fnN, the wish about what is raised by the slots -/
theorem run_fnNS {pins : List (Addr × Obj)} {σ : L2.St} {H : Hp} {s : Shared} {Q : VK} {us ws : List Value} {vs zs : List V} (F : FnOk X.prog X.w X.K X.mg X.base CX k f fd ps sp) (hr : Room k X.A) (hb : KBn X.K fd ps n ks g gV) (hx : PassesAt CX X σ (E σ))
    (I : Inv X pins σ H s) (r : Vals vs us) (rz : Vals zs ws) (l1 : vs.length = n) (l2 : zs.length = ks.length) (h : sp (gV vs zs) H Q (E σ)) : wpAny (model X.prog X.w) X.A (call (.ref f) us (ks.zip ws)) (EP X pins σ Q) X.xe s := by
  have b := hb.to s us ws I.kIn (r.length.symm.trans l1) (rz.length.symm.trans l2)
  refine wpAny_call (codeAny_mono (F.run X.A X.stack s H _ _ _ Q (E σ) hr I.env0 b (hb.rel r rz) h) fun out s' w => ?_)
  rcases out with x | fl
  · exact hx pins H s x s' I w
  · cases fl with
    | ret u => exact I.after w
    | next => exact w.elim
    | brk => exact w.elim
    | cont => exact w.elim
def tMethND (C : Addr) (m : Str) (n mm : Nat) (sp : Sp) (gV : List V → List V → List V) (E : L2.St → XK) (ta : TE) (t tk : TA) : TE := fun σ H Q => ta σ H fun x H1 => ∃ a dx fs, x = .ref a ∧ H1 a = some (.ins C dx fs) ∧ fs.lookup m = none ∧
  t σ H1 fun vs H2 => tk σ H2 fun zs H3 => (x :: vs).length = n ∧ zs.length = mm ∧ sp (gV (x :: vs) zs) H3 Q (E σ)
theorem pe_methND {pl : Sem Bool} (he : PE X o ta) (c : Cls X.K C) (hm : Meth X.K C m f) (F : FnOk X.prog X.w X.K X.mg X.base CX k f fd ps sp) (hr : Room k X.A) (hb : KBn X.K fd ps n ks g gV) (hx : ∀ σ, PassesAt CX X σ (E σ)) (ha : PA X (e :: es) t) (hkw : PK X kws tk)
    (hall : (backToKw pos (keywordEach kws X.env)).all (·.1.isSome) = true := by rfl) (hks : (backToKw pos (keywordEach kws X.env)).filterMap (·.1) = ks := by rfl) (hst : starEach (e :: es) X.env = (false, eval e X.env) :: starEach es X.env := by rfl)
    (hpl : ((backTo pos (starEach (e :: es) X.env)).any (·.1) || (backToKw pos (keywordEach kws X.env)).any (·.1.isNone)) = false := by rfl) (ht : MethEv X o m apos (e :: es) kws pos pl := by rfl) :
    PE X (.Call (.Attribute o m apos) (e :: es) kws pos) (tMethND C m n ks.length sp gV E ta t tk) :=
  ⟨fun pins s σ H Q I h => PySem.W.methodCall_KW (pl := pl) (thn (he.run pins s σ H _ I h) fun u s1 ⟨x, H1, I1, rx, a, dx, fs, ex, ea, l, q⟩ => by
    subst ex
    cases (show u = Value.ref a from rx)
    refine getmeth_ok I1 ea c hm l (PySem.W.callWith_KW (first := [.ref a]) I.ok.mod.kin hm.kp hall (thn (ha.run pos pins s1 σ H1 _ I1 q) fun us s2 ⟨vs, H2, I2, r, w⟩ => thn (hkw.run pos pins s2 σ H2 _ I2 w) fun ws s3 ⟨zs, H3, I3, rz, l1, l2, w3⟩ => ⟨I3.kIn, ?_⟩) hpl hst)
    rw [hks]
    exact run_fnNS (us := .ref a :: us) (vs := .ref a :: vs) F hr hb (hx σ) I3 (.cons rfl r) rz l1 l2 w3) ht⟩
/-- the receiver of a method in a try's body -/
def MethGoS (C : Addr) (m : Str) (sp : Sp) (dvs : List V) (E : L2.St → XK) (t : TA) (σ : L2.St) (x : V) (H : Hp) (Q : VK) : Prop := ∃ a dx fs, x = .ref a ∧ H a = some (.ins C dx fs) ∧ fs.lookup m = none ∧ t σ H fun vs H2 => sp (x :: (vs ++ dvs)) H2 Q (E σ)
theorem x_methS {σ : L2.St} {H : Hp} {Q : VK} (h : ta σ H fun x H1 => MethGoS C m sp dvs E t σ x H1 Q) : tMethSD C m sp dvs E ta t σ H Q := h
def MethGoN (C : Addr) (m : Str) (n mm : Nat) (sp : Sp) (gV : List V → List V → List V) (E : L2.St → XK) (t tk : TA) (σ : L2.St) (x : V) (H : Hp) (Q : VK) : Prop := ∃ a dx fs, x = .ref a ∧ H a = some (.ins C dx fs) ∧ fs.lookup m = none ∧
  t σ H fun vs H2 => tk σ H2 fun zs H3 => (x :: vs).length = n ∧ zs.length = mm ∧ sp (gV (x :: vs) zs) H3 Q (E σ)
theorem x_methN {mm : Nat} {σ : L2.St} {H : Hp} {Q : VK} (h : ta σ H fun x H1 => MethGoN C m n mm sp gV E t tk σ x H1 Q) : tMethND C m n mm sp gV E ta t tk σ H Q := h
end
end L2Z
namespace L2
open PySem PySem.Spec PyProof.Rows
/-- f(e, .., k = v, ..) with defaults, no keyword-only parameters -/
theorem FunD.kbinds1 {K : PySem.W.Frag} {x qual : Str} {params : Arguments} {body : List Stmt} {scope : Scope} {dvs : List V} {kws : List (Str × V)} {f : Addr} {fd : FuncData} {ps : List Str} (F : FunD K x qual params body scope dvs kws f fd) (n : Nat) (ks : List Str) (g : {α : Type} → List α → List α → List α → List α) (hd : dvs ≠ [])
    (hrel : ∀ {vs ds zs : List V} {us its ws : List Value}, Vals vs us → Vals ds its → Vals zs ws → Vals (g vs ds zs) (g us its ws))
    (h : ∀ (T : Addr) (kV doc pm : Value) (an : Option Addr) (cdv ct : Value) (us its ws : List Value), us.length = n → its.length = dvs.length → ws.length = ks.length →
      ∃ k, bindArgs (PySem.W.fnOf x qual params body scope (.ref T) kV doc pm an cdv ct) ⟨us, ks.zip ws⟩ = seqItems? (.ref T) >>= k ∧ k (some its.toArray) = pure (ps.zip (g us its ws))) :
    ∃ its : List Value, KBn K fd ps n ks (fun us ws => g us its ws) (fun vs zs => g vs dvs zs) := by
  obtain ⟨oc, od, dV, kV, doc, pm, an, cdv, ct, osl, rfl, lk, hcd, dd, _⟩ := F.ex
  rcases dd with ⟨e, _⟩ | ⟨_, T, o, its, m, rfl, lT, oT, rT⟩
  · exact (hd e).elim
  · exact ⟨its, fun s us ws inn l1 l2 => let ⟨k, e1, e2⟩ := h T kV doc pm an cdv ct us its ws l1 rT.length.symm l2; L2.BindsTo.of_looks fun M => e1 ▸ looks_items inn lT oT (.of_pure e2), fun r1 r2 => hrel r1 rT r2⟩
end L2

/-! ## GHot3 -/
set_option Elab.async false
set_option linter.all false
set_option maxRecDepth 100000
namespace G
open PySem PySem.Spec PyProof.Rows L2
section
variable {K : PySem.W.Frag} {σ : L2.St} {H G : Hp} {Q : VK}
/-- a comprehension over zip of two lists -/
def LcZGo (K : PySem.W.Frag) (us : List V) (g : TG) (tt : TT) (te : TE) (vs : List Nat) (σ : L2.St) (H1 : Hp) (Q : VK) : Prop := ∃ a b xs ys, us = [.ref a, .ref b] ∧ SqL K H1 a xs ∧ SqL K H1 b ys ∧ xs.length ≤ ys.length ∧ ∀ D, H1 D = none →
  ∃ W : Nat → Hp → Prop, W 0 (upd H1 D (.lst [])) ∧ (∀ i H, W i H → SqL K H a xs ∧ SqL K H b ys) ∧ (∀ H, W xs.length H → Q (.ref D) H) ∧
    ∀ i x y T H, W i H → xs[i]? = some x → ys[i]? = some y → H T = none → g (.ref T) (wipe σ vs) (upd H T (.tup [x, y])) fun σ2 H2 => wipe σ2 vs = wipe σ vs ∧ tt σ2 H2 fun b H3 =>
      if b = true then te σ2 H3 fun w H4 => ∃ acc, H4 D = some (.lst acc) ∧ acc.length < sizeLine ∧ W (i + 1) (upd H4 D (.lst (acc ++ [w]))) else W (i + 1) H3
theorem x_lcZ {t : TA} {te : TE} {gt : TG} {tt : TT} {own : List Nat} (h : t σ H fun vs H1 => LcZGo K vs gt tt te own σ H1 Q) : L2Z.tLcZ K t gt tt te own σ H Q := h
theorem lcZip {α β γ : Type} {R : Rp α} {S : Rp β} {T : Rp γ} (mR : Mono R) (mS : Mono S) (mT : Mono T) {v u : V} {xs : List α} {ys : List β} {gt : TG} {tt : TT} {te : TE} {own : List Nat} (f : α × β → Bool) (g : α × β → γ)
    (e : Ex G H) (hx : IsL R G v xs) (hy : IsL S G u ys) (hle : xs.length ≤ ys.length) (hz : xs.length < sizeLine)
    (turn : ∀ (z : α × β) (w1 w2 : V) (Tt : Addr) (G1 H1 : Hp) (N0 : Hp → Prop) (N1 : VK), St G H G1 H1 → R G1 w1 z.1 → S G1 w2 z.2 → G1 Tt = some (.tup [w1, w2]) → (∀ G2 H2, St G1 H1 G2 H2 → f z = false → N0 H2) → (∀ G2 H2 y, St G1 H1 G2 H2 → T G2 y (g z) → f z = true → N1 y H2) →
      gt (.ref Tt) (wipe σ own) H1 fun σ2 H2 => wipe σ2 own = wipe σ own ∧ tt σ2 H2 fun b H3 => if b = true then te σ2 H3 N1 else N0 H3)
    (done : ∀ G1 H1 D, St G H G1 H1 → IsL T G1 (.ref D) (((xs.zip ys).filter f).map g) → Q (.ref D) H1) : LcZGo K [v, u] gt tt te own σ H Q := by
  obtain ⟨p, ws, rfl, hp, hr⟩ := hx
  obtain ⟨q, us, rfl, hq, hs⟩ := hy
  have l1 : ws.length = xs.length := paired_len hr
  have l2 : us.length = ys.length := paired_len hs
  have hl : ws.length = (xs.zip ys).length := by rw [List.length_zip, l1]; omega
  refine ⟨p, q, ws, us, rfl, sq (e _ _ hp), sq (e _ _ hq), by omega, fun D hD => ⟨fun i H' => ∃ G' zs, St G H G' H' ∧ Mu G' H' D (.lst zs) ∧ Paired (T G') zs ((((xs.zip ys).take i).filter f).map g), ?_, ?_, ?_, ?_⟩⟩
  · obtain ⟨s, m⟩ := almF (o := .lst []) hD e
    exact ⟨G, [], s, m, .nil⟩
  · rintro i H' ⟨G', zs, s, _, _⟩
    exact ⟨sq (s.i _ _ (s.g _ _ hp)), sq (s.i _ _ (s.g _ _ hq))⟩
  · rintro H' ⟨G', zs, s, m, ps⟩
    rw [hl, List.take_length] at ps
    obtain ⟨s2, g2⟩ := freeze m s.i
    exact done (upd G' D (.lst zs)) H' D (Stm.fresh s s2 (fun a z => by rw [List.mem_singleton.mp z]; exact hD)) ⟨D, zs, rfl, g2, paired_imp (fun a b q => mT _ _ a b s2.g q) ps⟩
  · rintro i x1 x2 Tt H1 ⟨G', zs, s, m, ps⟩ e3 e4 hT
    obtain ⟨a, ha, ra⟩ := paired_get hr e3
    obtain ⟨b, hb, rb⟩ := paired_get hs e4
    have hzi : (xs.zip ys)[i]? = some (a, b) := by rw [List.getElem?_zip_eq_some]; exact ⟨ha, hb⟩
    obtain ⟨s1, ht⟩ := alF (o := .tup [x1, x2]) hT s.i
    have hfl : ((((xs.zip ys).take i).filter f).map g).length < sizeLine := by
      refine Nat.lt_of_le_of_lt ?_ hz
      rw [List.length_map]
      refine Nat.le_trans (List.length_filter_le _ _) ?_
      rw [List.length_take, List.length_zip]
      omega
    refine turn (a, b) x1 x2 Tt _ _ _ _ (s.trans s1) (mR _ _ _ _ (s.trans s1).g ra) (mS _ _ _ _ (s.trans s1).g rb) ht (fun G2 H2 s2 hf => ?_) (fun G2 H2 y s2 hy hf => ?_)
    · refine ⟨G2, zs, (s.trans s1).trans s2, s2.mu (s1.mu m), ?_⟩
      have : List.filter f [(a, b)] = [] := by simp [hf]
      rw [take_more hzi, List.filter_append, List.map_append, this, List.map_nil, List.append_nil]
      exact paired_imp (fun a b q => mT _ _ a b (s1.trans s2).g q) ps
    · have m2 := s2.mu (s1.mu m)
      obtain ⟨s3, m3⟩ := chgF (o' := .lst (zs ++ [y])) m2 s2.i
      refine ⟨zs, m2.1, by rw [paired_len ps]; exact hfl, G2, zs ++ [y], Stm.fresh ((s.trans s1).trans s2) s3 (fun a z => by rw [List.mem_singleton.mp z]; exact hD), m3, ?_⟩
      have : List.filter f [(a, b)] = [(a, b)] := by simp [hf]
      rw [take_more hzi, List.filter_append, List.map_append, this]
      exact paired_snoc hy (paired_imp (fun a b q => mT _ _ a b (s1.trans s2).g q) ps)
theorem isX {D a C : Addr} {b : Bool} (c : ExcC K D) (k : PySem.W.kitOne K (.ref D) (.ref C) = some b) (q : Q (.bl b) H) : L2Z.rIsX K (.ref D) none a [.ref a, .ref C] H Q := ⟨D, rfl, rfl, c, _, _, b, rfl, fun _ h => h, k, q⟩
theorem isXT {D a : Addr} {n : String} {b : Bool} (c : ExcC K D) (k : PySem.W.kitOne K (.ref D) (.type n) = some b) (q : Q (.bl b) H) : L2Z.rIsX K (.ref D) none a [.ref a, .ty n] H Q := ⟨D, rfl, rfl, c, _, _, b, rfl, fun _ h => h, k, q⟩
theorem x_callSD {sp : Sp} {dvs : List V} {E : L2.St → XK} {t : TA} (h : t σ H fun vs H1 => sp (vs ++ dvs) H1 Q (E σ)) : tCallSD sp dvs E t σ H Q := h
end
end G
namespace L2Z
open PySem PySem.Spec PyProof.Rows L2 L2H
theorem pe_lcZK {X : Cx} {K : PySem.W.Frag} {elt e1 e2 : Expr} {elts : List Expr} {kk : Nat} {tpos zp zpos : Pos} {ifs : List Expr} {scope : Scope} {own : List (Str × Nat)} {pos : Pos} {ta : TA} {g : TG} {tt : TT} {te : TE} (hK : X.K = K) (hc : HotC X) (hN : X.N.Nodup) (hgz : Gl X "zip") (hmz : X.mg "zip" = none) (harg : PA X [e1, e2] ta) (ok : BlkOk X.N X.env.scope scope own)
    (hg : ∀ (s : Shared) (H : Hp) (C : Addr) (cl : List (Str × Addr)) (fp : List Addr), PG (X.blkZ s H scope (compEnvC scope cl C X.env) fp) (.Tuple elts kk tpos) g) (ht : ∀ (s : Shared) (H : Hp) (C : Addr) (cl : List (Str × Addr)) (fp : List Addr), PTs (X.blkZ s H scope (compEnvC scope cl C X.env) fp) ifs tt)
    (he : ∀ (s : Shared) (H : Hp) (C : Addr) (cl : List (Str × Addr)) (fp : List Addr), PE (X.blkZ s H scope (compEnvC scope cl C X.env) fp) elt te)
    (hs : starEach [e1, e2] X.env = (false, eval e1 X.env) :: starEach [e2] X.env := by rfl) (hpl : (backTo zpos (starEach [e2] X.env)).any (·.1) = false := by rfl)
    (hfs : ∀ x, foldedSetIterable (.Call (.Name "zip" zp) [e1, e2] [] zpos) X.env x = pure x := by intro _; rfl) :
    PE X (.ListComp elt [⟨.Tuple elts kk tpos, .Call (.Name "zip" zp) [e1, e2] [] zpos, ifs, 0⟩] scope pos) (tLcZ K ta g tt te (own.map (·.2))) := by
  subst hK; exact pe_lcZ hc hN hgz hmz harg ok hg ht he hs hpl hfs
end L2Z

/-! ## GLaw2 -/
set_option Elab.async false
set_option linter.all false
set_option maxRecDepth 100000
namespace G
open PySem PySem.Spec PyProof.Rows L2
/-- 'z' * n, n at least 2 -/
def repS (z : Str) (n : Nat) : Str := ⟨(List.replicate n z.cps).foldl (· ++ ·) #[]⟩
def rMulS : R2 := fun x y H Q => ∃ z n, x = .str z ∧ y = .int (n : Nat) ∧ 2 ≤ n ∧ n ≤ 1000 ∧ z.cps.size = 1 ∧ (repS z n).cps.size ≤ 1000 ∧ Q (.str (repS z n)) H
theorem op_mulS {X : Cx} : OpR X (binaryOp .Mult) rMulS := by
  intro pins s σ H x y v u Q I rx ry h
  obtain ⟨z, n, rfl, rfl, h2, h3, h4, h5, q⟩ := h
  obtain ⟨t, rfl⟩ := rx
  obtain ⟨t', rfl⟩ := ry
  have hz : z.length = 1 := h4
  have e1 : ((n : Int) == 1 || z.length == 0) = false := by
    rw [hz]
    have : ((n : Int) == 1) = false := by simp; omega
    rw [this]; rfl
  refine PySem.P.mul_str (by simp; omega) (fun _ _ => ?_) (fun _ _ => ?_) ?_
  · rw [hz]
    intro hc
    have : (n : Int) ≤ 1000 := by omega
    have h0 : (0 : Int) < n := by omega
    have := Int.le_ediv_of_mul_le h0 (show (1 : Int) * n ≤ 2 ^ 63 - 1 by omega)
    omega
  · rw [hz]
    show decide _ = false
    refine decide_eq_false ?_
    have : (1000 : Nat) ≤ sizeLine := by decide
    simp
    omega
  · rw [if_neg (by omega), e1]
    exact ⟨by have : (1000 : Nat) ≤ sizeLine := by decide
              show (repS z n).cps.size ≤ _
              omega, ⟨.str (repS z n), H, I.tok _, ⟨_, rfl⟩, q⟩⟩
theorem mulS {z : Str} {n : Nat} {m : Int} {H : Hp} {Q : VK} (hm : m = (n : Nat)) (h2 : 2 ≤ n) (h3 : n ≤ 1000) (h4 : z.cps.size = 1) (h5 : (repS z n).cps.size ≤ 1000) (q : Q (.str (repS z n)) H) : rMulS (.str z) (.int m) H Q := ⟨z, n, rfl, by rw [hm], h2, h3, h4, h5, q⟩
/-- an item of a list, by a number that is not known -/
theorem pick {K : PySem.W.Frag} {H : Hp} {p : Addr} {xs : List V} {i : Int} {P : V → Prop} {Q : VK} (h : H p = some (.lst xs)) (h0 : 0 ≤ i) (hn : i < (xs.length : Nat)) (hp : ∀ v ∈ xs, P v) (k : ∀ v, P v → Q v H) : rIxL K (.ref p) (.int i) H Q := by
  obtain ⟨j, rfl⟩ := Int.eq_ofNat_of_zero_le h0
  have hj : j < xs.length := by omega
  exact ⟨p, xs, _, xs[j], rfl, rfl, sq h, atI_nat (List.getElem?_eq_getElem hj), k _ (hp _ (List.getElem_mem hj))⟩
theorem MuW.st {G H G1 H1 : Hp} {p : Addr} {c : Int} (m : MuW G H p c) (s : St G H G1 H1) : MuW G1 H1 p c := by
  obtain ⟨a, b, m, b0, b1⟩ := m
  exact ⟨a, b, s.mu m, b0, b1⟩
theorem x_gnameN {i : Nat} {v : V} {σ σ' : L2.St} {H : Hp} {R : L2.St → Hp → Prop} (e : σ.set i (some v) = σ') (h : R σ' H) : gName i v σ H R := by
  subst e; exact h
/-- for i in range(lo, lo + n) -/
theorem rangeG {lo : Int} {n : Nat} {gt : TG} {tb : TS} {D : Ends} {σ : L2.St} {H G : Hp} (Pv : Nat → L2.St → Hp → Hp → Prop) (h0 : Pv 0 σ G H)
    (turn : ∀ i σ1 G1 H1, i < n → Pv i σ1 G1 H1 → gt (.int (lo + (i : Nat))) σ1 H1 fun σ2 H2 => tb { D with nx := fun σ' H' => ∃ G', Pv (i + 1) σ' G' H', ct := fun σ' H' => ∃ G', Pv (i + 1) σ' G' H', bk := D.nx } σ2 H2)
    (done : ∀ σ' G' H', Pv n σ' G' H' → D.nx σ' H') : ForGo (Itr lo n) gt tb D σ H := by
  refine for_it (walk_range (lo := lo) (n := n)) (fun i σ' H' => ∃ G', Pv i σ' G' H') ⟨G, h0⟩ (fun i σ' H' hi ⟨G', h⟩ => trivial) (fun i x σ' H1 H2 hi ⟨G', h⟩ y => ?_) (fun σ' H' ⟨G', h⟩ => done σ' G' H' h)
  obtain ⟨e2, hx⟩ := y
  subst e2 hx
  exact turn i σ' G' _ hi h
theorem x_iRng1 {ta : TA} {σ : L2.St} {H : Hp} {R : It → Hp → Prop} (h : ta σ H fun vs H1 => ∃ j : Int, vs = [.int j] ∧ -(2 ^ 62) ≤ j ∧ j < 2 ^ 62 ∧ R (Itr 0 j.toNat) H1) : iRng1 ta σ H R := h
theorem sqMono {K : PySem.W.Frag} {G H : Hp} {a : Addr} {xs : List V} (e : Ex G H) (h : SqL K G a xs) : SqL K H a xs := by
  rcases h with h | h
  · rcases h with h | ⟨o, h⟩
    · exact .inl (.inl (e _ _ h))
    · exact .inl (.inr ⟨o, e _ _ h⟩)
  · exact .inr h
theorem cutV_map (ns : List Int) (lo hi : Option Int) : ∃ ms : List Int, ms.length ≤ ns.length ∧ cutV (ns.map V.int) lo hi = ms.map V.int := by
  refine ⟨(ns.drop (HT.sIx (ns.map V.int).length 0 lo)).take (HT.sIx (ns.map V.int).length (ns.map V.int).length hi - HT.sIx (ns.map V.int).length 0 lo), ?_, ?_⟩
  · rw [List.length_take, List.length_drop]; omega
  · unfold cutV
    rw [List.map_take, List.map_drop]
end G

/-! ## GLaw3 -/
set_option Elab.async false
set_option linter.all false
set_option maxRecDepth 100000
namespace G
open PySem PySem.Spec PyProof.Rows L2
section
variable {K : PySem.W.Frag} {σ : L2.St} {G H : Hp} {Q : VK} {P : Program} {w : World}
/-! ### readings by name -/
theorem x_iZip {ta : TA} {R : It → Hp → Prop} (h : ta σ H fun vs H1 => ∃ a b xs ys, vs = [.ref a, .ref b] ∧ SqL K H1 a xs ∧ SqL K H1 b ys ∧ R (Itz K a b) H1) : iZip K ta σ H R := h
def DGetGo (x y : V) (H : Hp) (Q : VK) : Prop := ∃ a v, x = .ref a ∧ DGet H a y (some v) ∧ Q v H
theorem x_dget {td ty : TE} (h : td σ H fun x H1 => ty σ H1 fun y H2 => DGetGo x y H2 Q) : tDGet td ty σ H Q := h
theorem dgetF {a : Addr} {kvs : List (Key × V)} {s : Str} {v : V} (h : H a = some (.dK kvs)) (hv : valV kvs (Sum.inr s) = some v) (q : Q v H) : DGetGo (.ref a) (.str s) H Q := ⟨a, v, rfl, by rw [← hv]; exact DGet.k (k := Sum.inr s) h, q⟩
def RevGo (K : PySem.W.Frag) (x : V) (H : Hp) (Q : VK) : Prop := ∃ a xs, x = .ref a ∧ SqL K H a xs ∧ ∀ p, H p = none → Q (.ref p) (upd H p (.lst xs.reverse))
theorem x_revL {te : TE} (h : te σ H fun x H1 => RevGo K x H1 Q) : tRevL K te σ H Q := h
theorem paired_append {α β : Type} {F : α → β → Prop} : ∀ {xs xs' : List α} {ys ys' : List β}, Paired F xs ys → Paired F xs' ys' → Paired F (xs ++ xs') (ys ++ ys')
  | _, _, _, _, .nil, h => h
  | _, _, _, _, .cons r t, h => .cons r (paired_append t h)
theorem paired_rev {α β : Type} {F : α → β → Prop} : ∀ {xs : List α} {ys : List β}, Paired F xs ys → Paired F xs.reverse ys.reverse
  | _, _, .nil => .nil
  | _, _, .cons (a := a) (b := b) r t => by
    rw [List.reverse_cons, List.reverse_cons]
    exact paired_append (paired_rev t) (.cons r .nil)
theorem revG {α : Type} {R : Rp α} (mR : Mono R) {v : V} {xs : List α} (hx : IsL R G v xs) (e : Ex G H) (h : ∀ G1 H1 p, St G H G1 H1 → IsL R G1 (.ref p) xs.reverse → Q (.ref p) H1) : RevGo K v H Q := by
  obtain ⟨p, ws, rfl, hp, hr⟩ := hx
  refine ⟨p, ws, rfl, sq (e _ _ hp), fun d hd => ?_⟩
  obtain ⟨s, g⟩ := alF (o := .lst ws.reverse) hd e
  exact h _ _ d s ⟨d, _, rfl, g, paired_rev (paired_imp (fun a b q => mR _ _ a b s.g q) hr)⟩
/-! ### rules with the fragment named, for comprehensions -/
theorem sl_tupK {X : Cx} (hK : X.K = K) : SlR X (rSlT K) := by subst hK; exact sl_tup
theorem op_eqDK {X : Cx} (hK : X.K = K) (hu : X.A.units + 64 < cLine) : OpR X (compareOp .Eq) (rEqD K) := by subst hK; exact op_eqD hu
theorem cr_sortPK {X : Cx} (hK : X.K = K) : CallR X (.builtin "sorted") (rSortedPO K) := by subst hK; exact cr_sortedPO
/-! ### a for over two lists -/
theorem zipG {α β : Type} {R : Rp α} {S : Rp β} (mR : Mono R) (mS : Mono S) {v u : V} {xs : List α} {ys : List β} {gt : TG} {tb : TS} {D : Ends} (hx : IsL R G v xs) (hy : IsL S G u ys) (hl : xs.length = ys.length) (e : Ex G H) (Pv : Nat → L2.St → Hp → Hp → Prop) (h0 : Pv 0 σ G H)
    (hst : ∀ i σ' G' H', i ≤ xs.length → Pv i σ' G' H' → Ex G G' ∧ Ex G' H')
    (turn : ∀ i x y w1 w2 T σ1 G1 H1 G2 H2 (D2 : Ends), xs[i]? = some x → ys[i]? = some y → Pv i σ1 G1 H1 → St G1 H1 G2 H2 → R G2 w1 x → S G2 w2 y → G2 T = some (.tup [w1, w2]) → (∀ σ' G' H', Pv (i + 1) σ' G' H' → D2.nx σ' H') → gt (.ref T) σ1 H2 fun σ2 H3 => tb D2 σ2 H3)
    (done : ∀ σ' G' H', Pv xs.length σ' G' H' → D.nx σ' H') : ∃ a b us vs, [v, u] = [V.ref a, V.ref b] ∧ SqL K H a us ∧ SqL K H b vs ∧ ForGo (Itz K a b) gt tb D σ H := by
  obtain ⟨p, ws, rfl, hp, hr⟩ := hx
  obtain ⟨q, us, rfl, hq, hs⟩ := hy
  have l1 := paired_len hr
  have l2 := paired_len hs
  refine ⟨p, q, ws, us, rfl, sq (e _ _ hp), sq (e _ _ hq), ?_⟩
  refine for_it (walk_zip (K := K) (a := p) (b := q) (xs := ws) (ys := us) (n := xs.length) (by omega)) (fun i σ' H' => ∃ G', Pv i σ' G' H') ⟨G, h0⟩ (fun i σ' H' hi ⟨G', h⟩ => ?_) (fun i x σ' H1 H2 hi ⟨G', h⟩ ⟨T, x1, x2, e1, hT, e2, e3, e4⟩ => ?_) (fun σ' H' ⟨G', h⟩ => done σ' G' H' h)
  · obtain ⟨e1, e2⟩ := hst i σ' G' H' hi h
    exact ⟨sq (e2 _ _ (e1 _ _ hp)), sq (e2 _ _ (e1 _ _ hq))⟩
  · subst e1 e2
    obtain ⟨a, ha, ra⟩ := paired_get hr e3
    obtain ⟨b, hb, rb⟩ := paired_get hs e4
    obtain ⟨q1, q2⟩ := hst i σ' G' H1 (by omega) h
    obtain ⟨s, ht⟩ := alF (o := .tup [x1, x2]) hT q2
    exact turn i a b x1 x2 T σ' G' H1 _ _ _ ha hb h s (mR _ _ _ _ (q1.trans s.g) ra) (mS _ _ _ _ (q1.trans s.g) rb) ht fun σ2 G2 H2 q => ⟨G2, q⟩
/-! ### a dict of runs: its keys -/
theorem DX.keys {G G' : Hp} (e : Ex G G') : ∀ {xs : Xs} {bg : Bg}, DX G xs bg → Paired (IsRn G') (xs.map fun x => V.ref x.2.1) (bg.map (·.1))
  | _, _, .nil => .nil
  | _, _, .cons r t => .cons ⟨_, _, _, rfl, e _ _ r.2.2, rfl, rfl⟩ (DX.keys e t)
theorem listX {d : Addr} {bg : Bg} (m : MuX P w G H d bg) (e : Ex G H) (h : ∀ G1 H1 p, St G H G1 H1 → IsL IsRn G1 (.ref p) (bg.map (·.1)) → Q (.ref p) H1) : rListX P w [.ref d] H Q := by
  obtain ⟨xs, m, hx⟩ := m
  refine ⟨d, xs, rfl, m.1, fun p hp => ?_⟩
  obtain ⟨s, g⟩ := alF (o := .lst (xs.map fun x => .ref x.2.1)) hp e
  refine h _ _ p s ⟨p, _, rfl, g, ?_⟩
  exact hx.keys s.g
theorem DX.get {r : Rn} {t : Int} : ∀ {xs : Xs} {bg : Bg}, DX G xs bg → kNd bg → (r, t) ∈ bg → valX xs r = some (.int t)
  | _, _, .cons (a := a) (b := b) q u, nd, hm => by
    have nd' := List.nodup_cons.mp nd
    unfold valX
    rw [List.find?_cons, q.1]
    rcases List.mem_cons.mp hm with e | hm
    · rw [← e, decide_eq_true rfl]
      show some a.2.2 = _
      rw [q.2.1, ← e]
    · have ne : ¬ b.1 = r := fun c => nd'.1 (List.mem_map.mpr ⟨_, hm, c.symm⟩)
      rw [decide_eq_false ne]
      exact DX.get u nd'.2 hm
theorem popGV {d : Addr} {bg : Bg} {v : V} {r : Rn} {t : Int} (m : MuX P w G H d bg) (e : Ex G H) (hv : IsRn G v r) (nd : kNd bg) (hin : (r, t) ∈ bg) (h : ∀ H1, Stm [d] G H G H1 → MuX P w G H1 d (bg.filter fun x => decide (x.1 ≠ r)) → Q (.int t) H1) : rPopX P w (.ref d) [v] H Q := by
  obtain ⟨xs, m, hx⟩ := m
  obtain ⟨a, w1, w2, rfl, ht, rfl, rfl⟩ := hv
  obtain ⟨s, m2⟩ := chgF (o' := dxO P w d (dropX xs r)) m e
  exact ⟨d, xs, a, r, .int t, rfl, rfl, m.1, hx.kx e, e _ _ ht, hx.get nd hin, h _ s ⟨_, m2, hx.drop r⟩⟩
theorem ixX {d : Addr} {xs : Xs} {bg : Bg} {o : Obj} {v : V} {r : Rn} {t : Int} (m : Mu G H d (.frz o (dxO P w d xs))) (hx : DX G xs bg) (e : Ex G H) (hv : IsRn G v r) (nd : kNd bg) (hin : (r, t) ∈ bg) (h : Q (.int t) H) : rIxX P w (.ref d) v H Q := by
  obtain ⟨a, w1, w2, rfl, ht, rfl, rfl⟩ := hv
  exact ⟨d, a, xs, r, .int t, rfl, rfl, ⟨_, m.1, .inr ⟨o, rfl⟩⟩, hx.kx e, e _ _ ht, hx.get nd hin, h⟩
/-- for run in begun: while nothing is put into it -/
theorem forKX {d : Addr} {bg : Bg} {td : TE} {gt : TG} {tb : TS} {D : Ends} (hd : ∀ (H' : Hp) (R : VK), R (.ref d) H' → td σ H' R) (m : MuX P w G H d bg) (e : Ex G H) (Pv : Obj → Xs → Nat → L2.St → Hp → Hp → Prop)
    (h0 : ∀ od xs H1, Stm [d] G H G H1 → Mu G H1 d (.frz od (dxO P w d xs)) → DX G xs bg → Pv od xs 0 σ G H1)
    (hst : ∀ od xs i σ' G' H', i ≤ bg.length → DX G xs bg → Pv od xs i σ' G' H' → Ex G G' ∧ Ex G' H' ∧ Mu G' H' d (.frz od (dxO P w d xs)))
    (turn : ∀ od xs i x v σ1 G1 H1 (D2 : Ends), bg[i]? = some x → DX G xs bg → Pv od xs i σ1 G1 H1 → IsRn G1 v x.1 → (∀ σ' G' H', Pv od xs (i + 1) σ' G' H' → D2.nx σ' H') → gt v σ1 H1 fun σ2 H3 => tb D2 σ2 H3)
    (done : ∀ od xs σ' G' H' H2, Pv od xs bg.length σ' G' H' → Stm [d] G' H' G' H2 → Mu G' H2 d (dxO P w d xs) → DX G xs bg → D.nx σ' H2) : tLock (tFor (iKeysX P w td) gt tb) D σ H := by
  obtain ⟨xs, m, hx⟩ := m
  refine ⟨d, _, m.1, trivial, fun od => ?_⟩
  obtain ⟨s0, m0⟩ := chgF (o' := .frz od (dxO P w d xs)) m e
  have hl : xs.length = bg.length := hx.len
  refine hd _ _ ⟨d, od, xs, rfl, upd_same, ?_⟩
  refine for_it (walk_keysX (P := P) (w := w) (d := d) (o := od) (xs := xs)) (fun i σ' H' => ∃ G', Pv od xs i σ' G' H') ⟨G, h0 od xs _ s0 m0 hx⟩ (fun i σ' H' hi ⟨G', h⟩ => ?_) (fun i x σ' H1 H2 hi ⟨G', h⟩ ⟨e1, y, hy, e2⟩ => ?_) (fun σ' H' ⟨G', h⟩ => ?_)
  · exact (hst od xs i σ' G' H' (by omega) hx h).2.2.1
  · subst e1 e2
    obtain ⟨q1, q2, q3⟩ := hst od xs i σ' G' _ (by omega) hx h
    obtain ⟨z, hz, rz⟩ := paired_get hx hy
    exact turn od xs i z _ σ' G' _ _ hz hx h ⟨_, _, _, rfl, q1 _ _ rz.2.2, rfl, rfl⟩ fun σ2 G2 H2 q => ⟨G2, q⟩
  · rw [hl] at h
    obtain ⟨q1, q2, q3⟩ := hst od xs _ σ' G' H' (Nat.le_refl _) hx h
    obtain ⟨s3, m3⟩ := chgF (o' := dxO P w d xs) q3 q2
    exact ⟨q3.1, done od xs σ' G' H' _ h s3 m3 hx⟩
/-! ### sorted pairs of ints -/
abbrev IsII : Rp (Int × Int) := IsT2 IsI IsI
theorem IsII.mono : Mono IsII := IsT2.mono IsI.mono IsI.mono
theorem IsII.un {v : V} {a b : Int × Int} (h : IsII G v a) (g : IsII G v b) : a = b := by
  obtain ⟨t, w1, w2, rfl, h1, e1, e2⟩ := h
  obtain ⟨t', u1, u2, e, h2, f1, f2⟩ := g
  cases e
  rw [h1] at h2
  simp only [Option.some.injEq, HO.tup.injEq, List.cons.injEq, and_true] at h2
  obtain ⟨rfl, rfl⟩ := h2
  have e1 : w1 = .int a.1 := e1
  have e2 : w2 = .int a.2 := e2
  have f1 : w1 = .int b.1 := f1
  have f2 : w2 = .int b.2 := f2
  rw [e1] at f1
  rw [e2] at f2
  exact Prod.ext (V.int.inj f1) (V.int.inj f2)
open Classical in
theorem sortII {v : V} {ps : List (Int × Int)} (hx : IsL IsII G v ps) (e : Ex G H) (h : ∀ G1 H1 p qs, St G H G1 H1 → qs.Perm ps → qs.Pairwise lexLe → IsL IsII G1 (.ref p) qs → Q (.ref p) H1) : rSortedPO K [v] H Q := by
  obtain ⟨p0, ws, rfl, hp, hr⟩ := hx
  let f : V → Int × Int := fun v => if h : ∃ b, IsII G v b then h.choose else (0, 0)
  have hf : ∀ v b, IsII G v b → f v = b := fun v b hb => by
    have ex : ∃ b, IsII G v b := ⟨b, hb⟩
    show (if h : ∃ b, IsII G v b then h.choose else (0, 0)) = b
    rw [dif_pos ex]
    exact IsII.un ex.choose_spec hb
  have all : ∀ x ∈ ws, IsII G x (f x) := fun x hx => by
    obtain ⟨y, hy⟩ := paired_all hr x hx
    rw [hf x y hy]; exact hy
  refine ⟨p0, ws, f, rfl, sq (e _ _ hp), fun x hx => ?_, fun ys p hs hb hn => ?_⟩
  · obtain ⟨t, w1, w2, h1, h2, e1, e2⟩ := all x hx
    have e1 : w1 = .int (f x).1 := e1
    have e2 : w2 = .int (f x).2 := e2
    refine ⟨t, h1, ?_⟩
    rw [e _ _ h2, e1, e2]
  · obtain ⟨s, g⟩ := alF (o := .lst ys) hn e
    refine h _ _ p (ys.map f) s ?_ ?_ ⟨p, ys, rfl, g, paired_self fun x hx => IsII.mono _ _ _ _ s.g (all x (hb.perm.mem_iff.mp hx))⟩
    · rw [paired_map hr hf]; exact hb.perm.map f
    · rw [List.pairwise_map]
      exact hs.imp fun {x y} l => lexB_le l
end
end G

/-! ## Geo1 -/
set_option Elab.async false
set_option linter.all false
set_option maxRecDepth 100000
namespace G
/-! ### runs of a row: intervals that don't touch, rising -/
def RunsOf (p : Int → Bool) (rs : List Rn) : Prop :=
  rs.Pairwise (fun a b => ∃ e, a.2 = some e ∧ e + 1 < b.1) ∧ (∀ x ∈ rs, ∀ e, x.2 = some e → x.1 ≤ e) ∧ ∀ c, p c = rs.any fun x => isAt x.1 x.2 c
theorem isAt_iff {a : Int} {l : Option Int} {n : Int} : isAt a l n = true ↔ a ≤ n ∧ ∀ e, l = some e → n ≤ e := by
  unfold isAt
  cases l with
  | none => simp
  | some e => simp
theorem any_iff {rs : List Rn} {c : Int} : (rs.any fun x => isAt x.1 x.2 c) = true ↔ ∃ x ∈ rs, x.1 ≤ c ∧ ∀ e, x.2 = some e → c ≤ e := by
  rw [List.any_eq_true]
  constructor
  · rintro ⟨x, h, g⟩
    exact ⟨x, h, isAt_iff.mp g⟩
  · rintro ⟨x, h, g⟩
    exact ⟨x, h, isAt_iff.mpr g⟩
theorem runs_uniq : ∀ {rs rs' : List Rn}, rs.Pairwise (fun a b => ∃ e, a.2 = some e ∧ e + 1 < b.1) → rs'.Pairwise (fun a b => ∃ e, a.2 = some e ∧ e + 1 < b.1) → (∀ x ∈ rs, ∀ e, x.2 = some e → x.1 ≤ e) → (∀ x ∈ rs', ∀ e, x.2 = some e → x.1 ≤ e) →
    (∀ c, (rs.any fun x => isAt x.1 x.2 c) = rs'.any fun x => isAt x.1 x.2 c) → rs = rs'
  | [], [], _, _, _, _, _ => rfl
  | [], y :: r', _, _, _, h4, h => by
    have : ((y :: r').any fun x => isAt x.1 x.2 y.1) = true := any_iff.mpr ⟨y, List.mem_cons_self, Int.le_refl _, fun e he => h4 y List.mem_cons_self e he⟩
    rw [← h] at this; cases this
  | x :: r, [], _, _, h3, _, h => by
    have : ((x :: r).any fun z => isAt z.1 z.2 x.1) = true := any_iff.mpr ⟨x, List.mem_cons_self, Int.le_refl _, fun e he => h3 x List.mem_cons_self e he⟩
    rw [h] at this; cases this
  | x :: r, y :: r', h1, h2, h3, h4, h => by
    have c1 := List.pairwise_cons.mp h1
    have c2 := List.pairwise_cons.mp h2
    have iff : ∀ c, (∃ z ∈ x :: r, z.1 ≤ c ∧ ∀ e, z.2 = some e → c ≤ e) ↔ ∃ z ∈ y :: r', z.1 ≤ c ∧ ∀ e, z.2 = some e → c ≤ e := fun c => by
      rw [← any_iff, ← any_iff, h c]
    have minx : ∀ z ∈ x :: r, x.1 ≤ z.1 := fun z hz => by
      rcases List.mem_cons.mp hz with rfl | hz
      · exact Int.le_refl _
      · obtain ⟨e, he, lt⟩ := c1.1 z hz
        have := h3 x List.mem_cons_self e he
        omega
    have miny : ∀ z ∈ y :: r', y.1 ≤ z.1 := fun z hz => by
      rcases List.mem_cons.mp hz with rfl | hz
      · exact Int.le_refl _
      · obtain ⟨e, he, lt⟩ := c2.1 z hz
        have := h4 y List.mem_cons_self e he
        omega
    have e1 : x.1 = y.1 := by
      obtain ⟨z, hz, l1, _⟩ := (iff x.1).mp ⟨x, List.mem_cons_self, Int.le_refl _, fun e he => h3 x List.mem_cons_self e he⟩
      obtain ⟨u, hu, l2, _⟩ := (iff y.1).mpr ⟨y, List.mem_cons_self, Int.le_refl _, fun e he => h4 y List.mem_cons_self e he⟩
      have := miny z hz
      have := minx u hu
      omega
    have e2 : x.2 = y.2 := by
      cases hx : x.2 with
      | none =>
        cases hy : y.2 with
        | none => rfl
        | some e =>
          obtain ⟨z, hz, l1, l2⟩ := (iff (e + 1)).mp ⟨x, List.mem_cons_self, by have := h4 y List.mem_cons_self e hy; omega, fun e' he' => by rw [hx] at he'; cases he'⟩
          rcases List.mem_cons.mp hz with rfl | hz
          · have := l2 e hy; omega
          · obtain ⟨e', he', lt⟩ := c2.1 z hz
            rw [hy] at he'; cases he'
            omega
      | some f =>
        cases hy : y.2 with
        | none =>
          obtain ⟨z, hz, l1, l2⟩ := (iff (f + 1)).mpr ⟨y, List.mem_cons_self, by have := h3 x List.mem_cons_self f hx; omega, fun e' he' => by rw [hy] at he'; cases he'⟩
          rcases List.mem_cons.mp hz with rfl | hz
          · have := l2 f hx; omega
          · obtain ⟨e', he', lt⟩ := c1.1 z hz
            rw [hx] at he'; cases he'
            omega
        | some e =>
          have q1 := h3 x List.mem_cons_self f hx
          have q2 := h4 y List.mem_cons_self e hy
          by_cases g1 : f < e
          · obtain ⟨z, hz, l1, l2⟩ := (iff (f + 1)).mpr ⟨y, List.mem_cons_self, by omega, fun e' he' => by rw [hy] at he'; cases he'; omega⟩
            rcases List.mem_cons.mp hz with rfl | hz
            · have := l2 f hx; omega
            · obtain ⟨e', he', lt⟩ := c1.1 z hz
              rw [hx] at he'; cases he'
              omega
          · by_cases g2 : e < f
            · obtain ⟨z, hz, l1, l2⟩ := (iff (e + 1)).mp ⟨x, List.mem_cons_self, by omega, fun e' he' => by rw [hx] at he'; cases he'; omega⟩
              rcases List.mem_cons.mp hz with rfl | hz
              · have := l2 e hy; omega
              · obtain ⟨e', he', lt⟩ := c2.1 z hz
                rw [hy] at he'; cases he'
                omega
            · have : f = e := by omega
              rw [this]
    have exy : x = y := Prod.ext e1 e2
    subst exy
    congr 1
    refine runs_uniq c1.2 c2.2 (fun z hz => h3 z (List.mem_cons_of_mem _ hz)) (fun z hz => h4 z (List.mem_cons_of_mem _ hz)) fun c => ?_
    rw [Bool.eq_iff_iff, any_iff, any_iff]
    have far : ∀ {l : List Rn}, (∀ b ∈ l, ∃ e, x.2 = some e ∧ e + 1 < b.1) → ∀ z ∈ l, z.1 ≤ c → ¬ (x.1 ≤ c ∧ ∀ e, x.2 = some e → c ≤ e) := fun hl z hz l1 ⟨_, l3⟩ => by
      obtain ⟨e, he, lt⟩ := hl z hz
      have := l3 e he
      omega
    constructor
    · rintro ⟨z, hz, l1, l2⟩
      obtain ⟨u, hu, m1, m2⟩ := (iff c).mp ⟨z, List.mem_cons_of_mem _ hz, l1, l2⟩
      rcases List.mem_cons.mp hu with rfl | hu
      · exact absurd ⟨m1, m2⟩ (far c1.1 z hz l1)
      · exact ⟨u, hu, m1, m2⟩
    · rintro ⟨z, hz, l1, l2⟩
      obtain ⟨u, hu, m1, m2⟩ := (iff c).mpr ⟨z, List.mem_cons_of_mem _ hz, l1, l2⟩
      rcases List.mem_cons.mp hu with rfl | hu
      · exact absurd ⟨m1, m2⟩ (far c2.1 z hz l1)
      · exact ⟨u, hu, m1, m2⟩
theorem RunsOf.uniq {p : Int → Bool} {rs rs' : List Rn} (h : RunsOf p rs) (g : RunsOf p rs') : rs = rs' :=
  runs_uniq h.1 g.1 h.2.1 g.2.1 fun c => by rw [← h.2.2 c, g.2.2 c]
theorem RunsOf.congr {p q : Int → Bool} {rs : List Rn} (h : RunsOf p rs) (e : ∀ c, q c = p c) : RunsOf q rs := ⟨h.1, h.2.1, fun c => by rw [e c]; exact h.2.2 c⟩
theorem RunsOf.nil : RunsOf (fun _ => false) [] := ⟨.nil, (fun _ h => nomatch h), fun _ => rfl⟩
/-- one more run behind all others -/
theorem RunsOf.snoc {p : Int → Bool} {rs : List Rn} {a : Int} {l : Option Int} (h : RunsOf p rs) (hb : ∀ x ∈ rs, ∃ e, x.2 = some e ∧ e + 1 < a) (hl : ∀ e, l = some e → a ≤ e) : RunsOf (fun c => p c || isAt a l c) (rs ++ [(a, l)]) := by
  refine ⟨List.pairwise_append.mpr ⟨h.1, List.pairwise_singleton _ _, fun x hx y hy => ?_⟩, fun x hx e he => ?_, fun c => ?_⟩
  · rw [List.mem_singleton.mp hy]
    exact hb x hx
  · rcases List.mem_append.mp hx with hx | hx
    · exact h.2.1 x hx e he
    · rw [List.mem_singleton.mp hx] at he ⊢
      exact hl e he
  · show (p c || isAt a l c) = _
    rw [List.any_append, h.2.2 c]
    simp
theorem withRun_runs {p : Int → Bool} {rs : List Rn} {a : Int} {l : Option Int} (h : RunsOf p rs) (hb : ∀ x ∈ rs, ∃ e, x.2 = some e ∧ e < a) (hl : ∀ e, l = some e → a ≤ e) : RunsOf (fun c => p c || isAt a l c) (withRun rs a l) := by
  rcases rs.eq_nil_or_concat with rfl | ⟨init, last, rfl⟩
  · exact RunsOf.snoc h (fun x hx => nomatch hx) hl
  · obtain ⟨f0, o⟩ := last
    rw [List.concat_eq_append] at *
    obtain ⟨e0, he0, lt0⟩ := hb (f0, o) (by simp)
    have he0 : o = some e0 := he0
    subst he0
    have hw := h.1
    have hi := List.pairwise_append.mp hw
    have far : ∀ x ∈ init, ∃ e, x.2 = some e ∧ e + 1 < f0 := fun x hx => hi.2.2 x hx (f0, some e0) (by simp)
    have f0e : f0 ≤ e0 := h.2.1 (f0, some e0) (by simp) e0 rfl
    unfold withRun
    rw [List.getLast?_concat]
    show RunsOf _ (if e0 = a - 1 then _ else _)
    by_cases c0 : e0 = a - 1
    · rw [if_pos c0, List.dropLast_concat]
      have hin : RunsOf (fun c => init.any fun x => isAt x.1 x.2 c) init := ⟨hi.1, fun x hx e he => h.2.1 x (List.mem_append_left _ hx) e he, fun c => rfl⟩
      refine (RunsOf.snoc (a := f0) (l := l) hin far (fun e he => by have := hl e he; omega)).congr fun c => ?_
      rw [h.2.2 c, List.any_append, Bool.or_assoc]
      congr 1
      rw [Bool.eq_iff_iff]
      simp only [List.any_cons, List.any_nil, Bool.or_false, Bool.or_eq_true, isAt_iff]
      constructor
      · rintro (⟨h1, h2⟩ | ⟨h1, h2⟩)
        · have := h2 e0 rfl
          exact ⟨h1, fun e he => by have := hl e he; omega⟩
        · exact ⟨by omega, h2⟩
      · rintro ⟨h1, h2⟩
        by_cases c1 : c ≤ e0
        · exact .inl ⟨h1, fun e he => by cases he; exact c1⟩
        · exact .inr ⟨by omega, h2⟩
    · rw [if_neg c0]
      refine RunsOf.snoc h (fun x hx => ?_) hl
      rcases List.mem_append.mp hx with hx | hx
      · obtain ⟨e, he, lt⟩ := far x hx
        exact ⟨e, he, by omega⟩
      · rw [List.mem_singleton.mp hx]
        exact ⟨e0, rfl, by omega⟩
theorem withRun_ends {rs : List Rn} {a l : Int} (hb : ∀ x ∈ rs, ∃ e, x.2 = some e ∧ e < a) (hl : a ≤ l) : ∀ x ∈ withRun rs a (some l), ∃ e, x.2 = some e ∧ e ≤ l := by
  have low : ∀ x ∈ rs, ∃ e, x.2 = some e ∧ e ≤ l := fun x hx => let ⟨e, he, lt⟩ := hb x hx; ⟨e, he, by omega⟩
  have app : ∀ f, ∀ x ∈ rs ++ [(f, some l)], ∃ e, x.2 = some e ∧ e ≤ l := fun f x hx => by
    rcases List.mem_append.mp hx with hx | hx
    · exact low x hx
    · rw [List.mem_singleton.mp hx]; exact ⟨l, rfl, Int.le_refl _⟩
  intro x hx
  unfold withRun at hx
  split at hx
  · split at hx
    · rcases List.mem_append.mp hx with hx | hx
      · exact low x (List.dropLast_subset _ hx)
      · rw [List.mem_singleton.mp hx]; exact ⟨l, rfl, Int.le_refl _⟩
    · exact app _ x hx
  · exact app _ x hx
/-! ### stretches between cuts -/
theorem strOf_mem : ∀ {cs : List Int}, cs.Pairwise (· < ·) → ∀ {s : Rn}, s ∈ strOf cs → s.1 ∈ cs ∧ (∀ f ∈ cs, s.1 < f → ∃ e, s.2 = some e ∧ e < f) ∧ (∀ e, s.2 = some e → s.1 ≤ e ∧ e + 1 ∈ cs)
  | [], _, _, h => nomatch h
  | [a], _, s, h => by
    rw [List.mem_singleton.mp h]
    exact ⟨by simp, fun f hf lt => by rw [List.mem_singleton.mp hf] at lt; exact absurd lt (Int.lt_irrefl _), fun e he => by cases he⟩
  | a :: b :: r, hs, s, h => by
    have h1 := List.pairwise_cons.mp hs
    have h2 := List.pairwise_cons.mp h1.2
    rcases List.mem_cons.mp h with rfl | h
    · refine ⟨by simp, fun f hf lt => ⟨b - 1, rfl, ?_⟩, fun e he => ?_⟩
      · rcases List.mem_cons.mp hf with rfl | hf
        · exact absurd lt (Int.lt_irrefl _)
        · rcases List.mem_cons.mp hf with rfl | hf
          · omega
          · have := h2.1 f hf; omega
      · cases he
        have := h1.1 b (by simp)
        exact ⟨by show a ≤ b - 1; omega, by rw [Int.sub_add_cancel]; simp⟩
    · obtain ⟨m1, m2, m3⟩ := strOf_mem h1.2 h
      refine ⟨List.mem_cons_of_mem _ m1, fun f hf lt => ?_, fun e he => ⟨(m3 e he).1, List.mem_cons_of_mem _ (m3 e he).2⟩⟩
      rcases List.mem_cons.mp hf with rfl | hf
      · have := h1.1 s.1 m1
        omega
      · exact m2 f hf lt
theorem strOf_cover : ∀ {cs : List Int} {a c : Int}, a ∈ cs → a ≤ c → ∃ s ∈ strOf cs, isAt s.1 s.2 c = true
  | [], _, _, h, _ => nomatch h
  | [b], a, c, h, le => by
    rw [List.mem_singleton.mp h] at le
    exact ⟨(b, none), by simp [strOf], isAt_iff.mpr ⟨le, fun e he => by cases he⟩⟩
  | b :: d :: r, a, c, h, le => by
    by_cases c1 : d ≤ c
    · obtain ⟨s, hs, hc⟩ := strOf_cover (cs := d :: r) (a := d) (by simp) c1
      exact ⟨s, List.mem_cons_of_mem _ hs, hc⟩
    · rcases List.mem_cons.mp h with rfl | h
      · exact ⟨(a, some (d - 1)), by simp [strOf], isAt_iff.mpr ⟨le, fun e he => by cases he; omega⟩⟩
      · obtain ⟨s, hs, hc⟩ := strOf_cover (cs := d :: r) (a := a) h le
        exact ⟨s, List.mem_cons_of_mem _ hs, hc⟩
/-- stretches that are kept, as runs -/
theorem fold_runs {kp : Int → Bool} : ∀ {cs : List Int} {acc : List Rn} {p : Int → Bool}, cs.Pairwise (· < ·) → RunsOf p acc → (∀ a ∈ cs, ∀ x ∈ acc, ∃ e, x.2 = some e ∧ e < a) →
    RunsOf (fun c => p c || (strOf cs).any fun s => kp s.1 && isAt s.1 s.2 c) ((strOf cs).foldl (fun acc s => if kp s.1 = true then withRun acc s.1 s.2 else acc) acc)
  | [], acc, p, _, h, _ => h.congr fun c => by simp [strOf]
  | [a], acc, p, _, h, hb => by
    show RunsOf _ (if kp a = true then withRun acc a none else acc)
    by_cases k : kp a = true
    · rw [if_pos k]
      exact (withRun_runs h (hb a (by simp)) (fun e he => by cases he)).congr fun c => by simp [strOf, k]
    · rw [if_neg k]
      exact h.congr fun c => by simp [strOf, k]
  | a :: b :: r, acc, p, hs, h, hb => by
    have h1 := List.pairwise_cons.mp hs
    have h2 := List.pairwise_cons.mp h1.2
    have ab : a < b := h1.1 b (by simp)
    have all : ∀ f ∈ b :: r, b ≤ f := fun f hf => by
      rcases List.mem_cons.mp hf with rfl | hf
      · exact Int.le_refl _
      · exact Int.le_of_lt (h2.1 f hf)
    show RunsOf _ ((strOf (b :: r)).foldl _ (if kp a = true then withRun acc a (some (b - 1)) else acc))
    by_cases k : kp a = true
    · rw [if_pos k]
      have w := withRun_runs (l := some (b - 1)) h (hb a (by simp)) (fun e he => by cases he; omega)
      have we := withRun_ends (l := b - 1) (hb a (by simp)) (by omega)
      refine (fold_runs (kp := kp) h1.2 w fun f hf x hx => ?_).congr fun c => ?_
      · obtain ⟨e, he, le⟩ := we x hx
        have := all f hf
        exact ⟨e, he, by omega⟩
      · simp [strOf, k, Bool.or_assoc]
    · rw [if_neg k]
      refine (fold_runs (kp := kp) h1.2 h fun f hf x hx => ?_).congr fun c => ?_
      · exact hb f (List.mem_cons_of_mem _ hf) x hx
      · simp [strOf, k]
theorem cuts_first {es : List Rn} {x : Rn} (h : x ∈ es) : x.1 ∈ sd (cutsOf es) := by
  rw [sd_mem]
  exact List.mem_append_left _ (List.mem_map.mpr ⟨x, h, rfl⟩)
theorem cuts_end {es : List Rn} {x : Rn} {e : Int} (h : x ∈ es) (he : x.2 = some e) : e + 1 ∈ sd (cutsOf es) := by
  rw [sd_mem]
  exact List.mem_append_right _ (List.mem_filterMap.mpr ⟨x, h, by rw [he]; rfl⟩)
theorem cuts_of {es : List Rn} {f : Int} (h : f ∈ sd (cutsOf es)) : (∃ x ∈ es, f = x.1) ∨ ∃ x ∈ es, ∃ e, x.2 = some e ∧ f = e + 1 := by
  rw [sd_mem] at h
  rcases List.mem_append.mp h with h | h
  · obtain ⟨x, hx, e⟩ := List.mem_map.mp h
    exact .inl ⟨x, hx, e.symm⟩
  · obtain ⟨x, hx, e⟩ := List.mem_filterMap.mp h
    cases hx2 : x.2 with
    | none => rw [hx2] at e; cases e
    | some l =>
      rw [hx2] at e
      exact .inr ⟨x, hx, l, hx2, (Option.some.inj e).symm⟩
/-- within a stretch between cuts nothing begins or ends -/
theorem at_const {cs : List Int} (hs : cs.Pairwise (· < ·)) {s : Rn} (h : s ∈ strOf cs) {c : Int} (hc : isAt s.1 s.2 c = true) {x : Rn} (h1 : x.1 ∈ cs) (h2 : ∀ e, x.2 = some e → e + 1 ∈ cs) : isAt x.1 x.2 c = isAt x.1 x.2 s.1 := by
  obtain ⟨m1, m2, m3⟩ := strOf_mem hs h
  obtain ⟨c1, c2⟩ := isAt_iff.mp hc
  have le : ∀ f ∈ cs, f ≤ c ↔ f ≤ s.1 := fun f hf => by
    constructor
    · intro g
      by_cases q : s.1 < f
      · obtain ⟨e, he, lt⟩ := m2 f hf q
        have := c2 e he
        omega
      · omega
    · intro g; omega
  rw [Bool.eq_iff_iff, isAt_iff, isAt_iff]
  constructor
  · rintro ⟨g1, g2⟩
    exact ⟨(le _ h1).mp g1, fun e he => by have := g2 e he; omega⟩
  · rintro ⟨g1, g2⟩
    refine ⟨(le _ h1).mpr g1, fun e he => ?_⟩
    have q := g2 e he
    by_cases q2 : e + 1 ≤ c
    · have := (le _ (h2 e he)).mp q2
      omega
    · omega
/-- the runs that the program makes are those of the columns kept -/
theorem runsBy_runs (one other : List Rn) (k : Bool → Bool → Bool) (k0 : k false false = false) : RunsOf (fun c => k (one.any fun r => isAt r.1 r.2 c) (other.any fun r => isAt r.1 r.2 c)) (runsBy one other k) := by
  have hs := sd_lt (cutsOf (one ++ other))
  have F := fold_runs (kp := fun a => k (one.any fun r => isAt r.1 r.2 a) (other.any fun r => isAt r.1 r.2 a)) hs RunsOf.nil (fun a _ x hx => nomatch hx)
  refine RunsOf.congr (show RunsOf _ (runsBy one other k) from F) fun c => ?_
  show k _ _ = (false || _)
  rw [Bool.false_or]
  have const : ∀ {s : Rn}, s ∈ strOf (sd (cutsOf (one ++ other))) → isAt s.1 s.2 c = true → ∀ {l : List Rn}, (∀ x ∈ l, x ∈ one ++ other) → (l.any fun r => isAt r.1 r.2 c) = l.any fun r => isAt r.1 r.2 s.1 := fun {s} hm hc {l} hl => by
    rw [Bool.eq_iff_iff, List.any_eq_true, List.any_eq_true]
    constructor
    · rintro ⟨x, hx, g⟩
      exact ⟨x, hx, by rw [← at_const hs hm hc (cuts_first (hl x hx)) fun e he => cuts_end (hl x hx) he]; exact g⟩
    · rintro ⟨x, hx, g⟩
      exact ⟨x, hx, by rw [at_const hs hm hc (cuts_first (hl x hx)) fun e he => cuts_end (hl x hx) he]; exact g⟩
  rw [Bool.eq_iff_iff, List.any_eq_true]
  constructor
  · intro h
    have ex : ∃ x ∈ one ++ other, isAt x.1 x.2 c = true := by
      by_cases q1 : (one.any fun r => isAt r.1 r.2 c) = true
      · obtain ⟨x, hx, g⟩ := List.any_eq_true.mp q1
        exact ⟨x, List.mem_append_left _ hx, g⟩
      · by_cases q2 : (other.any fun r => isAt r.1 r.2 c) = true
        · obtain ⟨x, hx, g⟩ := List.any_eq_true.mp q2
          exact ⟨x, List.mem_append_right _ hx, g⟩
        · rw [Bool.not_eq_true] at q1 q2
          rw [q1, q2, k0] at h; cases h
    obtain ⟨x, hx, g⟩ := ex
    obtain ⟨s, hm, hc⟩ := strOf_cover (cuts_first hx) (isAt_iff.mp g).1
    refine ⟨s, hm, ?_⟩
    rw [Bool.and_eq_true]
    refine ⟨?_, hc⟩
    rw [← const hm hc (fun x hx => List.mem_append_left _ hx), ← const hm hc (fun x hx => List.mem_append_right _ hx)]
    exact h
  · rintro ⟨s, hm, g⟩
    rw [Bool.and_eq_true] at g
    rw [const hm g.2 (fun x hx => List.mem_append_left _ hx), const hm g.2 (fun x hx => List.mem_append_right _ hx)]
    exact g.1
end G

/-! ## Geo2 -/
set_option Elab.async false
set_option linter.all false
set_option maxRecDepth 100000
namespace G
/-! ### runs told by what is at their ends -/
def MaxRun (p : Int → Bool) (r : Rn) : Prop := (∀ c, isAt r.1 r.2 c = true → p c = true) ∧ p (r.1 - 1) = false ∧ ∀ e, r.2 = some e → r.1 ≤ e ∧ p (e + 1) = false
theorem MaxRun.at {p : Int → Bool} {r : Rn} (h : MaxRun p r) : isAt r.1 r.2 r.1 = true := isAt_iff.mpr ⟨Int.le_refl _, fun e he => (h.2.2 e he).1⟩
theorem MaxRun.first {p : Int → Bool} {r : Rn} (h : MaxRun p r) : p r.1 = true := h.1 _ h.at
theorem MaxRun.uniq {p : Int → Bool} {r z : Rn} (h : MaxRun p r) (g : MaxRun p z) {c : Int} (hr : isAt r.1 r.2 c = true) (hz : isAt z.1 z.2 c = true) : r = z := by
  have r1 := isAt_iff.mp hr
  have z1 := isAt_iff.mp hz
  have e1 : r.1 = z.1 := by
    by_cases q : r.1 < z.1
    · have := h.1 (z.1 - 1) (isAt_iff.mpr ⟨by omega, fun e he => by have := r1.2 e he; omega⟩)
      rw [g.2.1] at this; cases this
    · by_cases q2 : z.1 < r.1
      · have := g.1 (r.1 - 1) (isAt_iff.mpr ⟨by omega, fun e he => by have := z1.2 e he; omega⟩)
        rw [h.2.1] at this; cases this
      · omega
  refine Prod.ext e1 ?_
  cases hx : r.2 with
  | none =>
    cases hy : z.2 with
    | none => rfl
    | some e =>
      have q := g.2.2 e hy
      have := h.1 (e + 1) (isAt_iff.mpr ⟨by omega, fun f hf => by rw [hx] at hf; cases hf⟩)
      rw [q.2] at this; cases this
  | some f =>
    have q := h.2.2 f hx
    cases hy : z.2 with
    | none =>
      have := g.1 (f + 1) (isAt_iff.mpr ⟨by omega, fun e he => by rw [hy] at he; cases he⟩)
      rw [q.2] at this; cases this
    | some e =>
      have q' := g.2.2 e hy
      by_cases lt : e < f
      · have := h.1 (e + 1) (isAt_iff.mpr ⟨by omega, fun e' he => by rw [hx] at he; cases he; omega⟩)
        rw [q'.2] at this; cases this
      · by_cases lt2 : f < e
        · have := g.1 (f + 1) (isAt_iff.mpr ⟨by omega, fun e' he => by rw [hy] at he; cases he; omega⟩)
          rw [q.2] at this; cases this
        · have : f = e := by omega
          rw [this]
theorem RunsOf.mem {p : Int → Bool} {rs : List Rn} (h : RunsOf p rs) (r : Rn) : r ∈ rs ↔ MaxRun p r := by
  have fwd : ∀ {r}, r ∈ rs → MaxRun p r := fun {r} hr => by
    obtain ⟨xs, ys, e⟩ := List.append_of_mem hr
    have pw := h.1
    rw [e] at pw
    have pa := List.pairwise_append.mp pw
    have pc := List.pairwise_cons.mp pa.2.1
    have bef : ∀ z ∈ xs, ∃ e, z.2 = some e ∧ e + 1 < r.1 := fun z hz => pa.2.2 z hz r (by simp)
    have no : ∀ c, (∀ z ∈ rs, z.1 ≤ c → (∀ e, z.2 = some e → c ≤ e) → False) → p c = false := fun c hc => by
      cases q : p c with
      | false => rfl
      | true =>
        rw [h.2.2 c] at q
        obtain ⟨z, hz, l1, l2⟩ := any_iff.mp q
        exact (hc z hz l1 l2).elim
    refine ⟨fun c hc => ?_, no _ fun z hz l1 l2 => ?_, fun e' he' => ⟨h.2.1 r hr e' he', no _ fun z hz l1 l2 => ?_⟩⟩
    · rw [h.2.2 c]
      exact List.any_eq_true.mpr ⟨r, hr, hc⟩
    · rw [e] at hz
      rcases List.mem_append.mp hz with hz | hz
      · obtain ⟨f, hf, lt⟩ := bef z hz
        have := l2 f hf; omega
      · rcases List.mem_cons.mp hz with rfl | hz
        · omega
        · obtain ⟨f, hf, lt⟩ := pc.1 z hz
          have := h.2.1 r hr f hf
          omega
    · have q := h.2.1 r hr e' he'
      rw [e] at hz
      rcases List.mem_append.mp hz with hz | hz
      · obtain ⟨f, hf, lt⟩ := bef z hz
        have := l2 f hf; omega
      · rcases List.mem_cons.mp hz with rfl | hz
        · have := l2 e' he'; omega
        · obtain ⟨f, hf, lt⟩ := pc.1 z hz
          rw [he'] at hf; cases hf
          omega
  refine ⟨fwd, fun g => ?_⟩
  have q := g.first
  rw [h.2.2] at q
  obtain ⟨z, hz, hc⟩ := List.any_eq_true.mp q
  rw [g.uniq (fwd hz) g.at hc]
  exact hz
/-! ### a set of cells, and its blocks -/
abbrev Cells := Int → Int → Bool
structure Nice (S : Cells) : Prop where
  runs : ∀ x, ∃ rs, RunsOf (S x) rs
  low : ∀ x c, S x c = true → 1 ≤ x ∧ 1 ≤ c
def IsMax (S : Cells) (B : Blk) : Prop := (∀ x, isAt B.t B.b x = true → MaxRun (S x) (B.l, B.r)) ∧ ¬ MaxRun (S (B.t - 1)) (B.l, B.r) ∧ ∀ e, B.b = some e → B.t ≤ e ∧ ¬ MaxRun (S (e + 1)) (B.l, B.r)
def Canon (S : Cells) (xs : List Blk) : Prop := xs.Pairwise (fun a b => leB a b = true) ∧ xs.Nodup ∧ ∀ B, B ∈ xs ↔ IsMax S B
theorem IsMax.top {S : Cells} {B : Blk} (h : IsMax S B) : isAt B.t B.b B.t = true := isAt_iff.mpr ⟨Int.le_refl _, fun e he => (h.2.2 e he).1⟩
theorem IsMax.low {S : Cells} (n : Nice S) {B : Blk} (h : IsMax S B) : 1 ≤ B.t ∧ 1 ≤ B.l := n.low _ _ (h.1 _ h.top).first
theorem MaxRun.lowx {S : Cells} (n : Nice S) {x : Int} {r : Rn} (h : MaxRun (S x) r) : 1 ≤ x := (n.low _ _ h.first).1
theorem IsMax.uniq {S : Cells} {A B : Blk} (h : IsMax S A) (g : IsMax S B) {x c : Int} (ha : isAt A.t A.b x = true) (hb : isAt B.t B.b x = true) (ka : isAt A.l A.r c = true) (kb : isAt B.l B.r c = true) : A = B := by
  have e := (h.1 x ha).uniq (g.1 x hb) ka kb
  obtain ⟨ta, la, ba, ra⟩ := A
  obtain ⟨tb, lb, bb, rb⟩ := B
  obtain ⟨e1, e2⟩ := Prod.mk.inj e
  clear e
  have e1 : la = lb := e1
  have e2 : ra = rb := e2
  subst e1 e2
  have r1 := isAt_iff.mp ha
  have z1 := isAt_iff.mp hb
  have t : ta = tb := by
    by_cases q : ta < tb
    · exact absurd (h.1 (tb - 1) (isAt_iff.mpr ⟨by show ta ≤ tb - 1; omega, fun e he => by have := r1.2 e he; have := z1.1; show tb - 1 ≤ e; simp only at *; omega⟩)) g.2.1
    · by_cases q2 : tb < ta
      · exact absurd (g.1 (ta - 1) (isAt_iff.mpr ⟨by show tb ≤ ta - 1; omega, fun e he => by have := z1.2 e he; have := r1.1; show ta - 1 ≤ e; simp only at *; omega⟩)) h.2.1
      · omega
  subst t
  congr 1
  cases ba with
  | none =>
    cases bb with
    | none => rfl
    | some e => exact absurd (h.1 (e + 1) (isAt_iff.mpr ⟨by have := (g.2.2 e rfl).1; show ta ≤ e + 1; simp only at this; omega, fun e he => by cases he⟩)) (g.2.2 e rfl).2
  | some f =>
    cases bb with
    | none => exact absurd (g.1 (f + 1) (isAt_iff.mpr ⟨by have := (h.2.2 f rfl).1; show ta ≤ f + 1; simp only at this; omega, fun e he => by cases he⟩)) (h.2.2 f rfl).2
    | some e =>
      have q1 := (h.2.2 f rfl).1
      have q2 := (g.2.2 e rfl).1
      simp only at q1 q2
      by_cases lt : e < f
      · exact absurd (h.1 (e + 1) (isAt_iff.mpr ⟨by show ta ≤ e + 1; omega, fun e' he => by cases he; omega⟩)) (g.2.2 e rfl).2
      · by_cases lt2 : f < e
        · exact absurd (g.1 (f + 1) (isAt_iff.mpr ⟨by show ta ≤ f + 1; omega, fun e' he => by cases he; omega⟩)) (h.2.2 f rfl).2
        · have : f = e := by omega
          rw [this]
theorem IsMax.key {S : Cells} {A B : Blk} (h : IsMax S A) (g : IsMax S B) (e1 : A.t = B.t) (e2 : A.l = B.l) : A = B := by
  refine h.uniq g h.top (e1 ▸ g.top) (h.1 _ h.top).at ?_
  have := (g.1 _ g.top).at
  show isAt B.l B.r A.l = true
  rw [e2]; exact this
theorem Canon.uniq {S : Cells} {xs ys : List Blk} (h : Canon S xs) (g : Canon S ys) : xs = ys := by
  refine perm_sorted ((List.perm_ext_iff_of_nodup h.2.1 g.2.1).mpr fun B => (h.2.2 B).trans (g.2.2 B).symm) h.1 g.1 fun x hx y hy => ?_
  exact IsMax.key ((g.2.2 x).mp hx) ((g.2.2 y).mp hy)
theorem canon_sort {S : Cells} {xs : List Blk} (nd : xs.Nodup) (m : ∀ B, B ∈ xs ↔ IsMax S B) : Canon S (sortB xs) :=
  ⟨sortB_sorted xs, (sortB_perm xs).nodup_iff.mpr nd, fun B => by rw [(sortB_perm xs).mem_iff]; exact m B⟩
theorem keys_nodup {S : Cells} {xs : List Blk} (nd : xs.Nodup) (m : ∀ B, B ∈ xs → IsMax S B) : (xs.map fun b => (b.t, b.l)).Nodup := by
  rw [List.nodup_iff_pairwise_ne] at *
  refine List.pairwise_map.mpr (List.Pairwise.imp_of_mem (fun {a b} ha hb hne he => ?_) nd)
  obtain ⟨e1, e2⟩ := Prod.mk.inj he
  exact hne (IsMax.key (m a ha) (m b hb) e1 e2)
/-- from a row of a run up to where it begins -/
theorem up_top {S : Cells} (n : Nice S) {r : Rn} : ∀ (m : Nat) {x : Int}, x ≤ (m : Int) → MaxRun (S x) r → ∃ t, t ≤ x ∧ (∀ y, t ≤ y → y ≤ x → MaxRun (S y) r) ∧ ¬ MaxRun (S (t - 1)) r
  | 0, x, hm, h => absurd (h.lowx n) (by omega)
  | m + 1, x, hm, h => by
    by_cases c : MaxRun (S (x - 1)) r
    · obtain ⟨t, h1, h2, h3⟩ := up_top n m (x := x - 1) (by omega) c
      refine ⟨t, by omega, fun y h4 h5 => ?_, h3⟩
      by_cases q : y = x
      · rw [q]; exact h
      · exact h2 y h4 (by omega)
    · exact ⟨x, Int.le_refl _, fun y h4 h5 => by rw [show y = x by omega]; exact h, c⟩
theorem up_top' {S : Cells} (n : Nice S) {r : Rn} {x : Int} (h : MaxRun (S x) r) : ∃ t, t ≤ x ∧ (∀ y, t ≤ y → y ≤ x → MaxRun (S y) r) ∧ ¬ MaxRun (S (t - 1)) r :=
  up_top n x.toNat (by omega) h
theorem down_end {P : Int → Prop} : ∀ (m : Nat) {x : Int}, P x → ¬ P (x + m) → ∃ e, x ≤ e ∧ (∀ y, x ≤ y → y ≤ e → P y) ∧ ¬ P (e + 1)
  | 0, x, h, g => absurd (by rw [Int.natCast_zero, Int.add_zero]; exact h) g
  | m + 1, x, h, g => by
    by_cases c : P (x + 1)
    · obtain ⟨e, h1, h2, h3⟩ := down_end m (x := x + 1) c (by rw [show x + 1 + (m : Int) = x + ((m + 1 : Nat) : Int) by omega]; exact g)
      refine ⟨e, by omega, fun y h4 h5 => ?_, h3⟩
      by_cases q : y = x
      · rw [q]; exact h
      · exact h2 y (by omega) h5
    · exact ⟨x, Int.le_refl _, fun y h4 h5 => by rw [show y = x by omega]; exact h, c⟩
theorem isMax_cover {S : Cells} (n : Nice S) {x c : Int} (h : S x c = true) : ∃ B, IsMax S B ∧ isAt B.t B.b x = true ∧ isAt B.l B.r c = true := by
  obtain ⟨rs, hr⟩ := n.runs x
  have q := h
  rw [hr.2.2] at q
  obtain ⟨r, hm, hc⟩ := List.any_eq_true.mp q
  have mr := (hr.mem r).mp hm
  obtain ⟨t, h1, h2, h3⟩ := up_top' n mr
  by_cases all : ∀ y, x ≤ y → MaxRun (S y) r
  · refine ⟨⟨t, r.1, none, r.2⟩, ⟨fun y hy => ?_, h3, fun e he => by cases he⟩, isAt_iff.mpr ⟨h1, fun e he => by cases he⟩, hc⟩
    have hy := (isAt_iff.mp hy).1
    by_cases c0 : y ≤ x
    · exact h2 y hy c0
    · exact all y (by omega)
  · obtain ⟨y, hy⟩ := Classical.not_forall.mp all
    obtain ⟨hxy, hy⟩ := Classical.not_imp.mp hy
    obtain ⟨e, e1, e2, e3⟩ := down_end (P := fun y => MaxRun (S y) r) (y - x).toNat (x := x) mr (by rw [show x + ((y - x).toNat : Int) = y by omega]; exact hy)
    refine ⟨⟨t, r.1, some e, r.2⟩, ⟨fun y hy => ?_, h3, fun e' he => ?_⟩, isAt_iff.mpr ⟨h1, fun e' he => ?_⟩, hc⟩
    · have hy := isAt_iff.mp hy
      have l2 := hy.2 e rfl
      have l1 := hy.1
      by_cases c0 : y ≤ x
      · exact h2 y l1 c0
      · exact e2 y (by omega) l2
    · cases he
      exact ⟨by show t ≤ e; omega, e3⟩
    · cases he; exact e1
def inB (B : Blk) (x c : Int) : Bool := isAt B.t B.b x && isAt B.l B.r c
def cellsOf (xs : List Blk) : Cells := fun x c => xs.any fun B => inB B x c
theorem Canon.cells {S : Cells} (n : Nice S) {xs : List Blk} (h : Canon S xs) (x c : Int) : cellsOf xs x c = S x c := by
  rw [Bool.eq_iff_iff]
  unfold cellsOf
  rw [List.any_eq_true]
  constructor
  · rintro ⟨B, hB, g⟩
    unfold inB at g
    rw [Bool.and_eq_true] at g
    exact (((h.2.2 B).mp hB).1 x g.1).1 c g.2
  · intro g
    obtain ⟨B, hB, g1, g2⟩ := isMax_cover n g
    exact ⟨B, (h.2.2 B).mpr hB, by unfold inB; rw [g1, g2]; rfl⟩
theorem columnsAt_any (xs : List Blk) (x c : Int) : ((columnsAt xs x).any fun r => isAt r.1 r.2 c) = cellsOf xs x c := by
  unfold columnsAt cellsOf inB
  rw [List.any_map]
  induction xs with
  | nil => rfl
  | cons b r ih =>
    rw [List.filter_cons, List.any_cons]
    cases q : isAt b.t b.b x with
    | true => rw [if_pos rfl, List.any_cons, ih]; rfl
    | false => rw [if_neg (by simp), ih]; rfl
/-! ### the fold over rows -/
structure Inv (S : Cells) (found : List Blk) (begun : Bg) (o : Option Int) : Prop where
  nf : found.Nodup
  nb : kNd begun
  mf : ∀ B, B ∈ found ↔ IsMax S B ∧ ∃ e', B.b = some e' ∧ ∀ e, o = some e → e' < e
  mb : ∀ r t, (r, t) ∈ begun ↔ (∀ e, o = some e → t ≤ e) ∧ (∀ x, isAt t o x = true → MaxRun (S x) r) ∧ ¬ MaxRun (S (t - 1)) r
theorem Inv.start {S : Cells} (n : Nice S) : Inv S [] [] (some 0) := by
  refine ⟨.nil, .nil, fun B => ⟨fun h => (by cases h), fun h => ?_⟩, fun r t => ⟨fun h => (by cases h), fun h => ?_⟩⟩
  · obtain ⟨hm, e, he, lt⟩ := h
    have := lt 0 rfl
    have := (hm.2.2 e he).1
    have := (hm.low n).1
    omega
  · have l := h.1 0 rfl
    have := (h.2.1 t (isAt_iff.mpr ⟨Int.le_refl _, fun e he => by cases he; exact l⟩)).lowx n
    omega
theorem setd_mem {f : Int} {bg : Bg} {r : Rn} (x : Rn × Int) : x ∈ setd f bg r ↔ x ∈ bg ∨ (x = (r, f) ∧ ∀ t, (r, t) ∉ bg) := by
  unfold setd
  split
  · rename_i c
    obtain ⟨y, hy, e⟩ := List.any_eq_true.mp c
    have e := of_decide_eq_true e
    refine ⟨.inl, fun h => h.elim id fun h => absurd ?_ (h.2 y.2)⟩
    rw [← e]; exact hy
  · rename_i c
    rw [List.mem_append, List.mem_singleton]
    refine ⟨fun h => h.imp id fun h => ⟨h, fun t ht => c (List.any_eq_true.mpr ⟨_, ht, decide_eq_true rfl⟩)⟩, fun h => h.imp id fun h => h.1⟩
theorem setds_mem {f : Int} : ∀ (rs : List Rn) {bg : Bg} (x : Rn × Int), x ∈ rs.foldl (setd f) bg ↔ x ∈ bg ∨ (x.2 = f ∧ x.1 ∈ rs ∧ ∀ t, (x.1, t) ∉ bg)
  | [], bg, x => by simp
  | r :: rs, bg, x => by
    rw [List.foldl_cons, setds_mem rs, setd_mem]
    constructor
    · rintro ((h | ⟨h, g⟩) | ⟨h1, h2, h3⟩)
      · exact .inl h
      · subst h; exact .inr ⟨rfl, by simp, g⟩
      · exact .inr ⟨h1, List.mem_cons_of_mem _ h2, fun t ht => h3 t ((setd_mem _).mpr (.inl ht))⟩
    · rintro (h | ⟨h1, h2, h3⟩)
      · exact .inl (.inl h)
      · by_cases c : x.1 = r
        · refine .inl (.inr ⟨Prod.ext c h1, ?_⟩)
          rw [← c]; exact h3
        · rcases List.mem_cons.mp h2 with h2 | h2
          · exact absurd h2 c
          · refine .inr ⟨h1, h2, fun t ht => ?_⟩
            rcases (setd_mem _).mp ht with q | ⟨q, _⟩
            · exact h3 t q
            · exact c (Prod.mk.inj q).1
theorem map_mkB_nodup {o : Option Int} : ∀ {bg : Bg}, kNd bg → (bg.map (mkB o)).Nodup
  | [], _ => .nil
  | x :: r, h => by
    have h' := List.nodup_cons.mp h
    rw [List.map_cons]
    refine List.nodup_cons.mpr ⟨fun hm => ?_, map_mkB_nodup h'.2⟩
    obtain ⟨y, hy, e⟩ := List.mem_map.mp hm
    injection e with e1 e2 e3 e4
    exact h'.1 (List.mem_map.mpr ⟨y, hy, Prod.ext e2 e4⟩)
theorem Inv.adv {S : Cells} (n : Nice S) {found : List Blk} {begun : Bg} {e : Int} {o : Option Int} (h : Inv S found begun (some e)) (R : List Rn) (hR : ∀ x, isAt (e + 1) o x = true → ∀ r, r ∈ R ↔ MaxRun (S x) r) (ho : ∀ e', o = some e' → e + 1 ≤ e') :
    Inv S (found ++ (begun.filter fun x => !R.contains x.1).map (mkB (some e))) (R.foldl (setd (e + 1)) (begun.filter fun x => R.contains x.1)) o := by
  have hn : isAt (e + 1) o (e + 1) = true := isAt_iff.mpr ⟨Int.le_refl _, ho⟩
  have gm : ∀ {r t}, (r, t) ∈ (begun.filter fun x => R.contains x.1) ↔ (r, t) ∈ begun ∧ r ∈ R := fun {r t} => by rw [List.mem_filter]; simp
  have gm' : ∀ {r t}, (r, t) ∈ (begun.filter fun x => !R.contains x.1) ↔ (r, t) ∈ begun ∧ r ∉ R := fun {r t} => by rw [List.mem_filter]; simp
  refine ⟨?_, setds_nd R (filter_nd h.nb), fun B => ?_, fun r t => ?_⟩
  · refine List.nodup_append.mpr ⟨h.nf, map_mkB_nodup (filter_nd h.nb), fun a ha b hb eq => ?_⟩
    subst eq
    obtain ⟨_, e', he', lt⟩ := (h.mf a).mp ha
    obtain ⟨y, hy, rfl⟩ := List.mem_map.mp hb
    have he' : some e = some e' := he'
    cases he'
    exact absurd (lt e rfl) (Int.lt_irrefl _)
  · rw [List.mem_append, h.mf, List.mem_map]
    constructor
    · rintro (⟨h1, e', h2, h3⟩ | ⟨⟨r, t⟩, h1, rfl⟩)
      · exact ⟨h1, e', h2, fun e2 he2 => by have := h3 e rfl; have := ho e2 he2; omega⟩
      · obtain ⟨h1, h2⟩ := gm'.mp h1
        obtain ⟨m1, m2, m3⟩ := (h.mb r t).mp h1
        refine ⟨⟨m2, m3, fun e' he' => ?_⟩, e, rfl, fun e2 he2 => by have := ho e2 he2; omega⟩
        have he' : some e = some e' := he'
        cases he'
        exact ⟨m1 e rfl, fun q => h2 ((hR (e + 1) hn r).mpr q)⟩
    · rintro ⟨h1, e', h2, h3⟩
      have te := (h1.2.2 e' h2).1
      by_cases c : e' < e
      · exact .inl ⟨h1, e', h2, fun e2 he2 => by cases he2; exact c⟩
      · by_cases c2 : e' = e
        · subst c2
          refine .inr ⟨((B.l, B.r), B.t), gm'.mpr ⟨(h.mb _ _).mpr ⟨fun e2 he2 => by cases he2; exact te, fun x hx => h1.1 x (by rw [h2]; exact hx), h1.2.1⟩, fun q => ?_⟩, ?_⟩
          · exact (h1.2.2 e' h2).2 ((hR (e' + 1) hn _).mp q)
          · show Blk.mk B.t B.l (some e') B.r = B
            rw [← h2]
        · exfalso
          have i1 : isAt (e + 1) o e' = true := isAt_iff.mpr ⟨by omega, fun e2 he2 => by have := h3 e2 he2; omega⟩
          have i2 : isAt (e + 1) o (e' + 1) = true := isAt_iff.mpr ⟨by omega, fun e2 he2 => by have := h3 e2 he2; omega⟩
          have q := h1.1 e' (isAt_iff.mpr ⟨te, fun e2 he2 => by rw [h2] at he2; cases he2; exact Int.le_refl _⟩)
          exact (h1.2.2 e' h2).2 ((hR _ i2 _).mp ((hR _ i1 _).mpr q))
  · rw [setds_mem]
    constructor
    · rintro (h1 | ⟨h1, h2, h3⟩)
      · obtain ⟨h1, h2⟩ := gm.mp h1
        obtain ⟨m1, m2, m3⟩ := (h.mb r t).mp h1
        have te := m1 e rfl
        refine ⟨fun e' he' => by have := ho e' he'; omega, fun x hx => ?_, m3⟩
        have hx := isAt_iff.mp hx
        by_cases c : x ≤ e
        · exact m2 x (isAt_iff.mpr ⟨hx.1, fun e2 he2 => by cases he2; exact c⟩)
        · exact (hR x (isAt_iff.mpr ⟨by omega, hx.2⟩) r).mp h2
      · have h1 : t = e + 1 := h1
        subst h1
        refine ⟨ho, fun x hx => (hR x hx r).mp h2, fun q => ?_⟩
        rw [Int.add_sub_cancel] at q
        obtain ⟨t, l1, l2, l3⟩ := up_top' n q
        refine h3 t (gm.mpr ⟨(h.mb _ _).mpr ⟨fun e2 he2 => by cases he2; exact l1, fun x hx => ?_, l3⟩, h2⟩)
        have hx := isAt_iff.mp hx
        exact l2 x hx.1 (hx.2 e rfl)
    · rintro ⟨h1, h2, h3⟩
      by_cases c : t ≤ e
      · have hr : r ∈ R := (hR _ hn r).mpr (h2 (e + 1) (isAt_iff.mpr ⟨by omega, ho⟩))
        refine .inl (gm.mpr ⟨(h.mb _ _).mpr ⟨fun e2 he2 => by cases he2; exact c, fun x hx => ?_, h3⟩, hr⟩)
        have hx := isAt_iff.mp hx
        refine h2 x (isAt_iff.mpr ⟨hx.1, fun e2 he2 => ?_⟩)
        have := hx.2 e rfl
        have := ho e2 he2
        omega
      · have ht : isAt t o t = true := isAt_iff.mpr ⟨Int.le_refl _, h1⟩
        have hr : r ∈ R := (hR t (isAt_iff.mpr ⟨by omega, h1⟩) r).mpr (h2 t ht)
        have te : t = e + 1 := by
          by_cases q : t = e + 1
          · exact q
          · refine absurd ((hR (t - 1) (isAt_iff.mpr ⟨by omega, fun e2 he2 => by have := h1 e2 he2; omega⟩) r).mp hr) h3
        refine .inr ⟨te, hr, fun t' ht' => ?_⟩
        obtain ⟨q1, _⟩ := gm.mp ht'
        obtain ⟨m1, m2, m3⟩ := (h.mb _ _).mp q1
        refine h3 ?_
        rw [te, Int.add_sub_cancel]
        exact m2 e (isAt_iff.mpr ⟨m1 e rfl, fun e2 he2 => by cases he2; exact Int.le_refl _⟩)
theorem Inv.fin {S : Cells} {found : List Blk} {begun : Bg} {o : Option Int} (h : Inv S found begun o) (he : ∀ e x, o = some e → e < x → ∀ r, ¬ MaxRun (S x) r) :
    (found ++ begun.map (mkB o)).Nodup ∧ ∀ B, B ∈ found ++ begun.map (mkB o) ↔ IsMax S B := by
  constructor
  · refine List.nodup_append.mpr ⟨h.nf, map_mkB_nodup h.nb, fun a ha b hb eq => ?_⟩
    subst eq
    obtain ⟨_, e', he', lt⟩ := (h.mf a).mp ha
    obtain ⟨y, hy, rfl⟩ := List.mem_map.mp hb
    have he' : o = some e' := he'
    exact absurd (lt e' he') (Int.lt_irrefl _)
  · intro B
    rw [List.mem_append, h.mf, List.mem_map]
    constructor
    · rintro (h1 | ⟨⟨r, t⟩, h1, rfl⟩)
      · exact h1.1
      · obtain ⟨m1, m2, m3⟩ := (h.mb r t).mp h1
        exact ⟨m2, m3, fun e he' => ⟨m1 e he', he e (e + 1) he' (by omega) _⟩⟩
    · intro h1
      by_cases c : ∃ e', B.b = some e' ∧ ∀ e, o = some e → e' < e
      · exact .inl ⟨h1, c⟩
      · have last : ∀ e, o = some e → ∀ x, isAt B.t B.b x = true → x ≤ e := fun e he0 x hx => by
          by_cases q : x ≤ e
          · exact q
          · exact absurd (h1.1 x hx) (he e x he0 (by omega) _)
        have hb : B.b = o := by
          cases q : B.b with
          | none =>
            cases q2 : o with
            | none => rfl
            | some e =>
              have := last e q2 (max (e + 1) B.t) (isAt_iff.mpr ⟨by omega, fun e2 he2 => by rw [q] at he2; cases he2⟩)
              omega
          | some e' =>
            cases q2 : o with
            | none => exact absurd ⟨e', q, fun e he2 => by rw [q2] at he2; cases he2⟩ c
            | some e =>
              have te := (h1.2.2 e' q).1
              have := last e q2 e' (isAt_iff.mpr ⟨te, fun e2 he2 => by rw [q] at he2; cases he2; exact Int.le_refl _⟩)
              have : ¬ e' < e := fun lt => c ⟨e', q, fun e2 he2 => by rw [q2] at he2; cases he2; exact lt⟩
              have : e' = e := by omega
              rw [this]
        refine .inr ⟨((B.l, B.r), B.t), (h.mb _ _).mpr ⟨fun e he2 => (h1.2.2 e (hb.trans he2)).1, fun x hx => h1.1 x (by rw [hb]; exact hx), h1.2.1⟩, ?_⟩
        show Blk.mk B.t B.l o B.r = B
        rw [← hb]
end G

/-! ## Geo3 -/
set_option Elab.async false
set_option linter.all false
set_option maxRecDepth 100000
namespace G
/-! ### the program's fold over bands, as a fold over stretches -/
def segStep (Rf : Int → List Rn) (s : FS) (st : Rn) : FS := if Rf st.1 = [] then s else formStep s (st.1, st.2, Rf st.1)
theorem seg_fold (one other : List Blk) (k : Bool → Bool → Bool) : ∀ (L : List Rn) (acc : List Band) (s0 : FS), (L.foldl (bandStep one other k) acc).foldl formStep s0 = L.foldl (segStep fun a => runsBy (columnsAt one a) (columnsAt other a) k) (acc.foldl formStep s0)
  | [], acc, s0 => rfl
  | st :: L, acc, s0 => by
    rw [List.foldl_cons, List.foldl_cons, seg_fold one other k L]
    congr 1
    unfold bandStep segStep
    by_cases c : runsBy (columnsAt one st.1) (columnsAt other st.1) k = []
    · rw [if_pos c, if_pos c]
    · rw [if_neg c, if_neg c, List.foldl_append]; rfl
theorem gone_at {e0 a : Int} {R : List Rn} (h : a = e0 + 1) : gone (some e0) a R = fun x => !R.contains x.1 := by
  funext x
  unfold gone
  rw [decide_eq_true (show a = (some e0).getD 0 + 1 from h)]
  simp
theorem gone_all {e0 a : Int} {R : List Rn} (h : ¬ a = e0 + 1) : gone (some e0) a R = fun _ => true := by
  funext x
  unfold gone
  rw [decide_eq_false (show ¬ a = (some e0).getD 0 + 1 from h)]
  simp
theorem keep_eq (o : Option Int) (a : Int) (R : List Rn) : keep o a R = fun x => !gone o a R x := rfl
theorem form_step {S : Cells} (n : Nice S) {s : FS} {e0 a : Int} {o : Option Int} {R : List Rn} (hb : s.behind = some e0) (h : Inv S s.found s.begun (some e0)) (lt : e0 < a) (hn : ∀ x, e0 < x → x < a → ∀ r, ¬ MaxRun (S x) r)
    (hR : ∀ x, isAt a o x = true → ∀ r, r ∈ R ↔ MaxRun (S x) r) (ho : ∀ e', o = some e' → a ≤ e') : Inv S (formStep s (a, o, R)).found (formStep s (a, o, R)).begun o := by
  unfold formStep
  dsimp only
  rw [hb, keep_eq]
  by_cases c : a = e0 + 1
  · rw [gone_at c]
    subst c
    have := h.adv n R hR ho
    simpa using this
  · rw [gone_all c]
    have g := h.adv n (o := some (a - 1)) [] (fun x hx r => by
      have hx := isAt_iff.mp hx
      have := hx.2 _ rfl
      exact ⟨fun z => (by cases z), fun z => absurd z (hn x (by omega) (by omega) r)⟩) (fun e' he => by cases he; omega)
    have g2 := g.adv n (o := o) R (by rw [Int.sub_add_cancel]; exact hR) (by rw [Int.sub_add_cancel]; exact ho)
    have f0 : s.begun.filter (fun _ => false) = [] := List.filter_eq_nil_iff.mpr (by simp)
    simpa [f0] using g2
theorem form_fold {S : Cells} (n : Nice S) {Rf : Int → List Rn} : ∀ {cs : List Int}, cs.Pairwise (· < ·) → (∀ st ∈ strOf cs, ∀ x, isAt st.1 st.2 x = true → ∀ r, r ∈ Rf st.1 ↔ MaxRun (S x) r) → ∀ {s : FS} {e0 : Int}, s.behind = some e0 → Inv S s.found s.begun (some e0) → (∀ a ∈ cs, e0 < a) → (∀ x, e0 < x → (∀ a ∈ cs, x < a) → ∀ r, ¬ MaxRun (S x) r) →
    Inv S ((strOf cs).foldl (segStep Rf) s).found ((strOf cs).foldl (segStep Rf) s).begun ((strOf cs).foldl (segStep Rf) s).behind ∧ ∀ e x, ((strOf cs).foldl (segStep Rf) s).behind = some e → e < x → ∀ r, ¬ MaxRun (S x) r
  | [], _, _, s, e0, hb, h, _, hn => by
    show Inv S s.found s.begun s.behind ∧ _
    refine ⟨hb ▸ h, fun e x he lt => ?_⟩
    have he : s.behind = some e := he
    rw [hb] at he; cases he
    exact hn x lt fun a ha => nomatch ha
  | [a], hs, hR, s, e0, hb, h, ha, hn => by
    have hR := hR (a, none) (by simp [strOf])
    have lt := ha a (by simp)
    have hn1 : ∀ x, e0 < x → x < a → ∀ r, ¬ MaxRun (S x) r := fun x l1 l2 => hn x l1 fun b hb => by rw [List.mem_singleton.mp hb]; exact l2
    show Inv S (segStep Rf s (a, none)).found (segStep Rf s (a, none)).begun (segStep Rf s (a, none)).behind ∧ ∀ e x, (segStep Rf s (a, none)).behind = some e → _
    unfold segStep
    by_cases c : Rf a = []
    · rw [if_pos c]
      refine ⟨hb ▸ h, fun e x he lt' r hr => ?_⟩
      rw [hb] at he; cases he
      by_cases q : x < a
      · exact hn1 x lt' q r hr
      · have := (hR x (isAt_iff.mpr ⟨by show a ≤ x; omega, fun e he => by cases he⟩) r).mpr hr
        rw [c] at this; cases this
    · rw [if_neg c]
      exact ⟨form_step n hb h lt hn1 hR (fun e he => by cases he), fun e x he => by cases he⟩
  | a :: b :: r, hs, hR, s, e0, hb, h, ha, hn => by
    have h1 := List.pairwise_cons.mp hs
    have h2 := List.pairwise_cons.mp h1.2
    have ab := h1.1 b (by simp)
    have hRa := hR (a, some (b - 1)) (by simp [strOf])
    have hRr : ∀ st ∈ strOf (b :: r), ∀ x, isAt st.1 st.2 x = true → ∀ r, r ∈ Rf st.1 ↔ MaxRun (S x) r := fun st hst => hR st (List.mem_cons_of_mem _ hst)
    have lt := ha a (by simp)
    have all : ∀ f ∈ b :: r, b ≤ f := fun f hf => by
      rcases List.mem_cons.mp hf with rfl | hf
      · exact Int.le_refl _
      · exact Int.le_of_lt (h2.1 f hf)
    have hn1 : ∀ x, e0 < x → x < a → ∀ r, ¬ MaxRun (S x) r := fun x l1 l2 => hn x l1 fun f hf => by
      rcases List.mem_cons.mp hf with rfl | hf
      · exact l2
      · have := h1.1 f hf; omega
    show Inv S ((strOf (b :: r)).foldl (segStep Rf) (segStep Rf s (a, some (b - 1)))).found ((strOf (b :: r)).foldl (segStep Rf) (segStep Rf s (a, some (b - 1)))).begun ((strOf (b :: r)).foldl (segStep Rf) (segStep Rf s (a, some (b - 1)))).behind ∧ ∀ e x, ((strOf (b :: r)).foldl (segStep Rf) (segStep Rf s (a, some (b - 1)))).behind = some e → _
    unfold segStep
    by_cases c : Rf a = []
    · rw [if_pos c]
      refine form_fold n h1.2 hRr hb h (fun f hf => by have := all f hf; omega) fun x l1 l2 r' hr => ?_
      by_cases q : x < a
      · exact hn1 x l1 q r' hr
      · have l3 := l2 b (by simp)
        have := (hRa x (isAt_iff.mpr ⟨by show a ≤ x; omega, fun e he => by cases he; omega⟩) r').mpr hr
        have c' : Rf a = [] := c
        rw [c'] at this; cases this
    · rw [if_neg c]
      refine form_fold n h1.2 hRr (e0 := b - 1) rfl (form_step n hb h lt hn1 hRa (fun e he => by cases he; omega)) (fun f hf => by have := all f hf; omega) fun x l1 l2 => ?_
      have l3 := l2 b (by simp)
      omega
/-! ### bands: where they end -/
theorem bands_chained (one other : List Blk) (k : Bool → Bool → Bool) : ∀ {cs : List Int} {acc : List Band}, (∀ b ∈ acc, b.2.1.isSome = true) → chained ((strOf cs).foldl (bandStep one other k) acc) = true
  | [], acc, h => by
    show chained acc = true
    unfold chained
    exact List.all_eq_true.mpr fun b hb => h b (List.dropLast_subset _ hb)
  | [a], acc, h => by
    show chained (bandStep one other k acc (a, none)) = true
    unfold bandStep chained
    split
    · exact List.all_eq_true.mpr fun b hb => h b (List.dropLast_subset _ hb)
    · rw [List.dropLast_concat]
      exact List.all_eq_true.mpr h
  | a :: b :: r, acc, h => by
    show chained ((strOf (b :: r)).foldl (bandStep one other k) (bandStep one other k acc (a, some (b - 1)))) = true
    refine bands_chained one other k fun x hx => ?_
    unfold bandStep at hx
    split at hx
    · exact h x hx
    · rcases List.mem_append.mp hx with hx | hx
      · exact h x hx
      · rw [List.mem_singleton.mp hx]; rfl
/-! ### what is kept of two lists of blocks -/
def kept (xs ys : List Blk) (k : Bool → Bool → Bool) : Cells := fun x c => k (cellsOf xs x c) (cellsOf ys x c)
theorem okB_iff {b : Blk} : okB b = true ↔ 1 ≤ b.t ∧ 1 ≤ b.l ∧ (∀ e, b.b = some e → b.t ≤ e) ∧ ∀ e, b.r = some e → b.l ≤ e := by
  have eb : ∀ (a : Int) (o : Option Int), 1 ≤ a → (endB a o = true ↔ ∀ e, o = some e → a ≤ e) := fun a o h => by
    cases o with
    | none => simp [endB]
    | some l => simp [endB]; omega
  unfold okB
  rw [Bool.and_eq_true, Bool.and_eq_true, Bool.and_eq_true, decide_eq_true_eq, decide_eq_true_eq]
  constructor
  · rintro ⟨⟨⟨h1, h2⟩, h3⟩, h4⟩
    exact ⟨h1, h2, (eb _ _ h1).mp h3, (eb _ _ h2).mp h4⟩
  · rintro ⟨h1, h2, h3, h4⟩
    exact ⟨⟨⟨h1, h2⟩, (eb _ _ h1).mpr h3⟩, (eb _ _ h2).mpr h4⟩
theorem cellsOf_low {xs : List Blk} (h : ∀ b ∈ xs, okB b = true) {x c : Int} (g : cellsOf xs x c = true) : 1 ≤ x ∧ 1 ≤ c := by
  obtain ⟨b, hb, q⟩ := List.any_eq_true.mp g
  unfold inB at q
  rw [Bool.and_eq_true] at q
  have o := okB_iff.mp (h b hb)
  have := (isAt_iff.mp q.1).1
  have := (isAt_iff.mp q.2).1
  omega
theorem kept_runs (xs ys : List Blk) (k : Bool → Bool → Bool) (k0 : k false false = false) (x : Int) : RunsOf (kept xs ys k x) (runsBy (columnsAt xs x) (columnsAt ys x) k) :=
  (runsBy_runs (columnsAt xs x) (columnsAt ys x) k k0).congr fun c => by rw [columnsAt_any, columnsAt_any]; rfl
theorem kept_nice {xs ys : List Blk} {k : Bool → Bool → Bool} (k0 : k false false = false) (hx : ∀ b ∈ xs, okB b = true) (hy : ∀ b ∈ ys, okB b = true) : Nice (kept xs ys k) := by
  refine ⟨fun x => ⟨_, kept_runs xs ys k k0 x⟩, fun x c h => ?_⟩
  unfold kept at h
  cases q1 : cellsOf xs x c with
  | true => exact cellsOf_low hx q1
  | false =>
    cases q2 : cellsOf ys x c with
    | true => exact cellsOf_low hy q2
    | false => rw [q1, q2, k0] at h; cases h
theorem row_const {bs : List Blk} {cs : List Int} (hs : cs.Pairwise (· < ·)) {st : Rn} (h : st ∈ strOf cs) {x : Int} (hx : isAt st.1 st.2 x = true) : ∀ {xs : List Blk}, (∀ b ∈ xs, b.t ∈ cs ∧ ∀ e, b.b = some e → e + 1 ∈ cs) → ∀ c, cellsOf xs x c = cellsOf xs st.1 c
  | [], _, c => rfl
  | b :: xs, hb, c => by
    have ih := row_const (bs := bs) hs h hx (xs := xs) (fun b hb' => hb b (List.mem_cons_of_mem _ hb')) c
    unfold cellsOf at ih ⊢
    rw [List.any_cons, List.any_cons, ih]
    congr 1
    unfold inB
    congr 1
    exact at_const hs h hx (x := (b.t, b.b)) (hb b (by simp)).1 (hb b (by simp)).2
theorem formRaw_mem {xs ys : List Blk} {k : Bool → Bool → Bool} (k0 : k false false = false) (hx : ∀ b ∈ xs, okB b = true) (hy : ∀ b ∈ ys, okB b = true) :
    (formRaw (bandsBy xs ys k)).Nodup ∧ ∀ B, B ∈ formRaw (bandsBy xs ys k) ↔ IsMax (kept xs ys k) B := by
  have n := kept_nice k0 hx hy
  have hs := sd_lt (cutsOf ((xs ++ ys).map fun b => (b.t, b.b)))
  have cut : ∀ b ∈ xs ++ ys, b.t ∈ sd (cutsOf ((xs ++ ys).map fun b => (b.t, b.b))) ∧ ∀ e, b.b = some e → e + 1 ∈ sd (cutsOf ((xs ++ ys).map fun b => (b.t, b.b))) := fun b hb =>
    ⟨cuts_first (x := (b.t, b.b)) (List.mem_map.mpr ⟨b, hb, rfl⟩), fun e he => cuts_end (x := (b.t, b.b)) (List.mem_map.mpr ⟨b, hb, rfl⟩) he⟩
  have const : ∀ st ∈ strOf (sd (cutsOf ((xs ++ ys).map fun b => (b.t, b.b)))), ∀ x, isAt st.1 st.2 x = true → kept xs ys k x = kept xs ys k st.1 := fun st hst x hx => by
    funext c
    unfold kept
    rw [row_const (bs := []) hs hst hx (fun b hb => cut b (List.mem_append_left _ hb)), row_const (bs := []) hs hst hx (fun b hb => cut b (List.mem_append_right _ hb))]
  have low : ∀ a ∈ sd (cutsOf ((xs ++ ys).map fun b => (b.t, b.b))), (0 : Int) < a := fun a ha => by
    have ok : ∀ b ∈ xs ++ ys, okB b = true := fun b hb => (List.mem_append.mp hb).elim (hx b) (hy b)
    rcases cuts_of ha with ⟨z, hz, rfl⟩ | ⟨z, hz, e, he, rfl⟩
    · obtain ⟨b, hb, rfl⟩ := List.mem_map.mp hz
      have := (okB_iff.mp (ok b hb)).1
      show 0 < b.t; omega
    · obtain ⟨b, hb, rfl⟩ := List.mem_map.mp hz
      have o := okB_iff.mp (ok b hb)
      have := o.2.2.1 e he
      omega
  have none0 : ∀ x, 0 < x → (∀ a ∈ sd (cutsOf ((xs ++ ys).map fun b => (b.t, b.b))), x < a) → ∀ r, ¬ MaxRun (kept xs ys k x) r := fun x _ hl r hr => by
    have q := hr.first
    have no : ∀ zs : List Blk, (∀ b ∈ zs, b ∈ xs ++ ys) → cellsOf zs x r.1 = false := fun zs hz => by
      cases q : cellsOf zs x r.1 with
      | false => rfl
      | true =>
        obtain ⟨b, hb, q⟩ := List.any_eq_true.mp q
        unfold inB at q
        rw [Bool.and_eq_true] at q
        have := (isAt_iff.mp q.1).1
        have := hl _ (cut b (hz b hb)).1
        omega
    unfold kept at q
    rw [no xs fun b hb => List.mem_append_left _ hb, no ys fun b hb => List.mem_append_right _ hb, k0] at q
    cases q
  have F := form_fold n (Rf := fun a => runsBy (columnsAt xs a) (columnsAt ys a) k) hs (fun st hst x hx r => by
    rw [const st hst x hx]
    exact (kept_runs xs ys k k0 st.1).mem r) (s := ⟨[], [], some 0⟩) (e0 := 0) rfl (Inv.start n) low none0
  have e : formSt (bandsBy xs ys k) = (strOf (sd (cutsOf ((xs ++ ys).map fun b => (b.t, b.b))))).foldl (segStep fun a => runsBy (columnsAt xs a) (columnsAt ys a) k) ⟨[], [], some 0⟩ := seg_fold xs ys k _ [] _
  unfold formRaw
  rw [e]
  exact F.1.fin F.2
/-- the program's list of blocks is the one list of the set's blocks -/
theorem form_canon {xs ys : List Blk} {k : Bool → Bool → Bool} (k0 : k false false = false) (hx : ∀ b ∈ xs, okB b = true) (hy : ∀ b ∈ ys, okB b = true) : Canon (kept xs ys k) (formOf (bandsBy xs ys k)) :=
  let h := formRaw_mem k0 hx hy
  canon_sort h.1 h.2
theorem IsMax.ok {S : Cells} (n : Nice S) {B : Blk} (h : IsMax S B) : okB B = true := by
  have l := h.low n
  exact okB_iff.mpr ⟨l.1, l.2, fun e he => (h.2.2 e he).1, fun e he => ((h.1 _ h.top).2.2 e he).1⟩
theorem Canon.ok {S : Cells} (n : Nice S) {xs : List Blk} (h : Canon S xs) : ∀ b ∈ xs, okB b = true := fun b hb => ((h.2.2 b).mp hb).ok n
/-! ### where a set may change, and how many blocks it has -/
def CutS (S : Cells) (R C : List Int) : Prop := (∀ x c, S x c ≠ S (x - 1) c → x ∈ R) ∧ ∀ x c, S x c ≠ S x (c - 1) → c ∈ C
theorem nodup_le {α : Type} [DecidableEq α] : ∀ {xs ys : List α}, xs.Nodup → (∀ x ∈ xs, x ∈ ys) → xs.length ≤ ys.length
  | [], _, _, _ => Nat.zero_le _
  | x :: xs, ys, nd, h => by
    have nd := List.nodup_cons.mp nd
    have hx := h x (by simp)
    have := nodup_le (xs := xs) (ys := ys.erase x) nd.2 fun y hy => (List.mem_erase_of_ne (fun c => nd.1 (by rw [← c]; exact hy))).mpr (h y (List.mem_cons_of_mem _ hy))
    rw [List.length_erase_of_mem hx] at this
    have := List.length_pos_of_mem hx
    rw [List.length_cons]
    omega
theorem prod_len {R C : List Int} : (R.flatMap fun a => C.map fun b => (a, b)).length = R.length * C.length := by
  induction R with
  | nil => simp
  | cons a R ih => rw [List.flatMap_cons, List.length_append, ih, List.length_map, List.length_cons, Nat.add_mul]; omega
theorem max_cut {S : Cells} (R C : List Int) (h : CutS S R C) {B : Blk} (m : IsMax S B) : B.t ∈ R ∧ B.l ∈ C := by
  have r := m.1 _ m.top
  constructor
  · by_cases q : ∃ c, S B.t c ≠ S (B.t - 1) c
    · obtain ⟨c, hc⟩ := q
      exact h.1 _ c hc
    · refine absurd ?_ m.2.1
      have e : S (B.t - 1) = S B.t := funext fun c => by
        by_cases q2 : S B.t c = S (B.t - 1) c
        · exact q2.symm
        · exact absurd ⟨c, q2⟩ q
      rw [e]; exact r
  · refine h.2 B.t B.l ?_
    rw [r.first, r.2.1]
    decide
theorem max_len {S : Cells} {xs : List Blk} {R C : List Int} (h : CutS S R C) (nd : xs.Nodup) (m : ∀ B ∈ xs, IsMax S B) : xs.length ≤ R.length * C.length := by
  have := nodup_le (ys := R.flatMap fun a => C.map fun b => (a, b)) (keys_nodup nd m) fun z hz => by
    obtain ⟨b, hb, rfl⟩ := List.mem_map.mp hz
    have q := max_cut R C h (m b hb)
    exact List.mem_flatMap.mpr ⟨b.t, q.1, List.mem_map.mpr ⟨b.l, q.2, rfl⟩⟩
  rw [prod_len, List.length_map] at this
  exact this
theorem Canon.len {S : Cells} {xs : List Blk} {R C : List Int} (h : Canon S xs) (c : CutS S R C) : xs.length ≤ R.length * C.length := max_len c h.2.1 fun B hB => (h.2.2 B).mp hB
theorem okF_kept {xs ys : List Blk} {k : Bool → Bool → Bool} (k0 : k false false = false) (hx : ∀ b ∈ xs, okB b = true) (hy : ∀ b ∈ ys, okB b = true) {R C : List Int} (c : CutS (kept xs ys k) R C) (l : R.length * C.length ≤ 1500) : okF (bandsBy xs ys k) = true := by
  have h := formRaw_mem k0 hx hy
  have n := kept_nice k0 hx hy
  unfold okF
  rw [Bool.and_eq_true, Bool.and_eq_true, Bool.and_eq_true]
  refine ⟨⟨⟨bands_chained xs ys k (fun b hb => nomatch hb), List.all_eq_true.mpr fun B hB => ((h.2 B).mp hB).ok n⟩, decide_eq_true (keys_nodup h.1 fun B hB => (h.2 B).mp hB)⟩, decide_eq_true ?_⟩
  exact Nat.le_trans (max_len c h.1 fun B hB => (h.2 B).mp hB) l
theorem kept_or_nil (xs : List Blk) : kept xs [] (fun a b => a || b) = cellsOf xs := by
  funext x c
  show (_ || cellsOf [] x c) = _
  rw [show cellsOf [] x c = false from rfl, Bool.or_false]
theorem norm_canon {xs : List Blk} (hx : ∀ b ∈ xs, okB b = true) : Canon (cellsOf xs) (norm xs) := by
  have := form_canon (k := fun a b => a || b) (ys := []) rfl hx fun b hb => nomatch hb
  rw [kept_or_nil] at this
  exact this
theorem cellsOf_nice {xs : List Blk} (hx : ∀ b ∈ xs, okB b = true) : Nice (cellsOf xs) := by
  have := kept_nice (k := fun a b => a || b) (ys := []) rfl hx fun b hb => nomatch hb
  rw [kept_or_nil] at this
  exact this
theorem okN_of {xs : List Blk} (hx : ∀ b ∈ xs, okB b = true) {R C : List Int} (c : CutS (cellsOf xs) R C) (l : R.length * C.length ≤ 1500) (lx : xs.length ≤ 1500) : okN xs = true := by
  unfold okN
  rw [Bool.and_eq_true]
  refine ⟨decide_eq_true lx, okF_kept rfl hx (fun b hb => nomatch hb) (R := R) (C := C) ?_ l⟩
  rw [kept_or_nil]; exact c
/-- what `by` gives -/
theorem by_canon {S T U : Cells} {xs ys : List Blk} {k : Bool → Bool → Bool} (k0 : k false false = false) (nS : Nice S) (nT : Nice T) (hx : Canon S xs) (hy : Canon T ys) (hU : ∀ x c, U x c = k (S x c) (T x c)) : Canon U (byA xs ys k) ∧ Nice U := by
  have e : kept xs ys k = U := by
    funext x c
    show k _ _ = _
    rw [hx.cells nS, hy.cells nT, hU]
  have f := form_canon k0 (hx.ok nS) (hy.ok nT)
  have n := kept_nice k0 (hx.ok nS) (hy.ok nT)
  rw [e] at f n
  have g := norm_canon (f.ok n)
  rw [show cellsOf (formOf (bandsBy xs ys k)) = U from funext fun x => funext fun c => f.cells n x c] at g
  exact ⟨g, n⟩
theorem by_ok {S T U : Cells} {xs ys : List Blk} {k : Bool → Bool → Bool} (k0 : k false false = false) (nS : Nice S) (nT : Nice T) (hx : Canon S xs) (hy : Canon T ys) (hU : ∀ x c, U x c = k (S x c) (T x c)) {R C : List Int} (cu : CutS U R C) (l : R.length * C.length ≤ 1500) (lz : xs.length + ys.length ≤ 1500) : okBy xs ys k = true := by
  have e : kept xs ys k = U := by
    funext x c
    show k _ _ = _
    rw [hx.cells nS, hy.cells nT, hU]
  have f := form_canon k0 (hx.ok nS) (hy.ok nT)
  have n := kept_nice k0 (hx.ok nS) (hy.ok nT)
  rw [e] at f n
  unfold okBy
  rw [Bool.and_eq_true, Bool.and_eq_true]
  refine ⟨⟨decide_eq_true lz, okF_kept k0 (hx.ok nS) (hy.ok nT) (R := R) (C := C) (by rw [e]; exact cu) l⟩, okN_of (R := R) (C := C) (f.ok n) ?_ l (Nat.le_trans (f.len cu) l)⟩
  rw [show cellsOf (formOf (bandsBy xs ys k)) = U from funext fun x => funext fun c => f.cells n x c]
  exact cu
theorem Canon.nil_iff {S : Cells} (n : Nice S) {xs : List Blk} (h : Canon S xs) : xs = [] ↔ ∀ x c, S x c = false := by
  constructor
  · intro e x c
    rw [← h.cells n, e]; rfl
  · intro e
    cases xs with
    | nil => rfl
    | cons b r =>
      have m := (h.2.2 b).mp (by simp)
      have := (m.1 _ m.top).first
      rw [e] at this; cases this
end G

/-! ## Geo4 -/
set_option Elab.async false
set_option linter.all false
set_option maxRecDepth 100000
namespace G
open PySem PySem.Spec PyProof.Rows L2
/-! ### a value for each cell, and a sheet that holds it -/
abbrev Vals := Int → Int → Str
def sv (W : Vals) (z : Str) : Cells := fun x c => decide (1 ≤ x) && decide (1 ≤ c) && decide (W x c = z)
theorem sv_iff {W : Vals} {z : Str} {x c : Int} : sv W z x c = true ↔ 1 ≤ x ∧ 1 ≤ c ∧ W x c = z := by
  unfold sv
  rw [Bool.and_eq_true, Bool.and_eq_true, decide_eq_true_eq, decide_eq_true_eq, decide_eq_true_eq, and_assoc]
def CutV (W : Vals) (R C : List Int) : Prop := 1 ∈ R ∧ 1 ∈ C ∧ (∀ x c, 2 ≤ x → W x c ≠ W (x - 1) c → x ∈ R) ∧ ∀ x c, 2 ≤ c → W x c ≠ W x (c - 1) → c ∈ C
theorem CutV.sv {W : Vals} {R C : List Int} (h : CutV W R C) (z : Str) : CutS (sv W z) R C := by
  refine ⟨fun x c hn => ?_, fun x c hn => ?_⟩
  · by_cases e1 : x = 1
    · rw [e1]; exact h.1
    · by_cases e2 : 2 ≤ x
      · refine h.2.2.1 x c e2 fun e => hn ?_
        unfold G.sv
        rw [e, decide_eq_true (show 1 ≤ x by omega), decide_eq_true (show 1 ≤ x - 1 by omega)]
      · refine absurd ?_ hn
        unfold G.sv
        rw [decide_eq_false (show ¬ 1 ≤ x by omega), decide_eq_false (show ¬ 1 ≤ x - 1 by omega)]
        rfl
  · by_cases e1 : c = 1
    · rw [e1]; exact h.2.1
    · by_cases e2 : 2 ≤ c
      · refine h.2.2.2 x c e2 fun e => hn ?_
        unfold G.sv
        rw [e, decide_eq_true (show 1 ≤ c by omega), decide_eq_true (show 1 ≤ c - 1 by omega)]
      · refine absurd ?_ hn
        unfold G.sv
        rw [decide_eq_false (show ¬ 1 ≤ c by omega), decide_eq_false (show ¬ 1 ≤ c - 1 by omega)]
        simp
theorem CutS.mono {S : Cells} {R C R' C' : List Int} (h : CutS S R C) (hr : ∀ x ∈ R, x ∈ R') (hc : ∀ x ∈ C, x ∈ C') : CutS S R' C' := ⟨fun x c q => hr _ (h.1 x c q), fun x c q => hc _ (h.2 x c q)⟩
theorem CutV.mono {S : Vals} {R C R' C' : List Int} (h : CutV S R C) (hr : ∀ x ∈ R, x ∈ R') (hc : ∀ x ∈ C, x ∈ C') : CutV S R' C' := ⟨hr _ h.1, hc _ h.2.1, fun x c q z => hr _ (h.2.2.1 x c q z), fun x c q z => hc _ (h.2.2.2 x c q z)⟩
theorem CutS.comb {S T : Cells} {R C : List Int} (h : CutS S R C) (g : CutS T R C) (k : Bool → Bool → Bool) {U : Cells} (hU : ∀ x c, U x c = k (S x c) (T x c)) : CutS U R C := by
  refine ⟨fun x c q => ?_, fun x c q => ?_⟩
  · by_cases e1 : S x c = S (x - 1) c
    · by_cases e2 : T x c = T (x - 1) c
      · exact absurd (by rw [hU, hU, e1, e2]) q
      · exact g.1 x c e2
    · exact h.1 x c e1
  · by_cases e1 : S x c = S x (c - 1)
    · by_cases e2 : T x c = T x (c - 1)
      · exact absurd (by rw [hU, hU, e1, e2]) q
      · exact g.2 x c e2
    · exact h.2 x c e1
/-- the cells of some get a value -/
def putV (W : Vals) (T : Cells) (z : Str) : Vals := fun x c => if T x c = true then z else W x c
theorem CutV.put {W : Vals} {T : Cells} {R C : List Int} (h : CutV W R C) (g : CutS T R C) (z : Str) : CutV (putV W T z) R C := by
  refine ⟨h.1, h.2.1, fun x c l q => ?_, fun x c l q => ?_⟩
  · by_cases e2 : T x c = T (x - 1) c
    · refine h.2.2.1 x c l fun e => q ?_
      unfold putV; rw [e2, e]
    · exact g.1 x c e2
  · by_cases e2 : T x c = T x (c - 1)
    · refine h.2.2.2 x c l fun e => q ?_
      unfold putV; rw [e2, e]
    · exact g.2 x c e2
/-- rows and columns where a list of blocks may change -/
def rowCuts (xs : List Blk) : List Int := cutsOf (xs.map fun b => (b.t, b.b))
def colCuts (xs : List Blk) : List Int := cutsOf (xs.map fun b => (b.l, b.r))
theorem at_step {a : Int} {l : Option Int} {x : Int} (h : isAt a l x ≠ isAt a l (x - 1)) (hl : ∀ e, l = some e → a ≤ e) : x = a ∨ ∃ e, l = some e ∧ x = e + 1 := by
  cases q : isAt a l x with
  | true =>
    have h1 := isAt_iff.mp q
    have h2 : ¬ isAt a l (x - 1) = true := fun c => h (by rw [q, c])
    rw [isAt_iff] at h2
    refine .inl ?_
    by_cases e : x = a
    · exact e
    · exact absurd ⟨by omega, fun e he => by have := h1.2 e he; omega⟩ h2
  | false =>
    have h2 : isAt a l (x - 1) = true := by
      cases q2 : isAt a l (x - 1) with
      | true => rfl
      | false => exact absurd (by rw [q, q2]) h
    have h1 := isAt_iff.mp h2
    have h3 : ¬ isAt a l x = true := by rw [q]; decide
    rw [isAt_iff] at h3
    cases l with
    | none => exact absurd ⟨by omega, fun e he => by cases he⟩ h3
    | some e =>
      refine .inr ⟨e, rfl, ?_⟩
      have := h1.2 e rfl
      by_cases q : x ≤ e
      · exact absurd ⟨by omega, fun e' he => by cases he; exact q⟩ h3
      · omega
theorem cells_cut {xs : List Blk} (hx : ∀ b ∈ xs, okB b = true) : CutS (cellsOf xs) (rowCuts xs) (colCuts xs) := by
  have mem : ∀ {p : Blk → Rn} {b : Blk} {x : Int}, b ∈ xs → (x = (p b).1 ∨ ∃ e, (p b).2 = some e ∧ x = e + 1) → x ∈ cutsOf (xs.map p) := fun {p b x} hb h => by
    rcases h with rfl | ⟨e, he, rfl⟩
    · exact List.mem_append_left _ (List.mem_map.mpr ⟨p b, List.mem_map.mpr ⟨b, hb, rfl⟩, rfl⟩)
    · exact List.mem_append_right _ (List.mem_filterMap.mpr ⟨p b, List.mem_map.mpr ⟨b, hb, rfl⟩, by rw [he]; rfl⟩)
  have any_ne : ∀ {f g : Blk → Bool} {l : List Blk}, l.any f ≠ l.any g → ∃ b ∈ l, f b ≠ g b := fun {f g l} h => by
    refine Classical.byContradiction fun c => h ?_
    have e : ∀ b ∈ l, f b = g b := fun b hb => Classical.byContradiction fun q => c ⟨b, hb, q⟩
    clear h c
    induction l with
    | nil => rfl
    | cons a r ih => rw [List.any_cons, List.any_cons, e a (by simp), ih fun b hb => e b (List.mem_cons_of_mem _ hb)]
  refine ⟨fun x c q => ?_, fun x c q => ?_⟩
  · obtain ⟨b, hb, ne⟩ := any_ne q
    refine mem (p := fun b => (b.t, b.b)) hb (at_step (fun e => ne ?_) (okB_iff.mp (hx b hb)).2.2.1)
    have e : isAt b.t b.b x = isAt b.t b.b (x - 1) := e
    unfold inB; rw [e]
  · obtain ⟨b, hb, ne⟩ := any_ne q
    refine mem (p := fun b => (b.l, b.r)) hb (at_step (fun e => ne ?_) (okB_iff.mp (hx b hb)).2.2.2)
    have e : isAt b.l b.r c = isAt b.l b.r (c - 1) := e
    unfold inB; rw [e]
structure Holds (hs : Hs) (W : Vals) : Prop where
  kn : kn hs
  ne : ∀ h ∈ hs, h.2 ≠ []
  cn : ∀ h ∈ hs, Canon (sv W h.1) h.2
  al : ∀ x c, 1 ≤ x → 1 ≤ c → ∃ xs, (W x c, xs) ∈ hs
/-- the runs of all rows are there -/
def NiceV (W : Vals) : Prop := ∀ z, Nice (sv W z)
theorem getH_mem {hs : Hs} (k : kn hs) {z : Str} {xs : List Blk} : getH hs z = some xs ↔ (z, xs) ∈ hs := by
  unfold getH
  induction hs with
  | nil => simp
  | cons h r ih =>
    have kc : h.1 ∉ r.map (·.1) ∧ G.kn r := List.nodup_cons.mp k
    rw [List.find?_cons]
    by_cases c : h.1 = z
    · rw [decide_eq_true c]
      show some h.2 = some xs ↔ _
      constructor
      · intro e
        cases e
        rw [← c]; simp
      · intro hm
        rcases List.mem_cons.mp hm with e | e
        · rw [← e]
        · exact absurd (List.mem_map.mpr ⟨_, e, c.symm⟩) kc.1
    · rw [decide_eq_false c]
      refine (ih kc.2).trans ⟨fun q => List.mem_cons_of_mem _ q, fun hm => ?_⟩
      rcases List.mem_cons.mp hm with e | e
      · exact absurd (by rw [← e]) c
      · exact e
theorem getH_none {hs : Hs} {z : Str} : getH hs z = none ↔ ∀ xs, (z, xs) ∉ hs := by
  unfold getH
  rw [Option.map_eq_none_iff, List.find?_eq_none]
  constructor
  · intro h xs hm
    exact h _ hm (decide_eq_true rfl)
  · intro h x hx e
    have e := of_decide_eq_true e
    refine h x.2 ?_
    rw [← e]; exact hx
theorem canon_none {S : Cells} (h : ∀ x c, S x c = false) : Canon S [] :=
  ⟨.nil, .nil, fun B => ⟨fun q => (by cases q), fun m => by have := (m.1 _ m.top).first; rw [h] at this; cases this⟩⟩
theorem Holds.get {hs : Hs} {W : Vals} (h : Holds hs W) (z : Str) : Canon (sv W z) ((getH hs z).getD []) := by
  cases q : getH hs z with
  | some xs => exact h.cn _ ((getH_mem h.kn).mp q)
  | none =>
    refine canon_none fun x c => ?_
    cases q2 : sv W z x c with
    | false => rfl
    | true =>
      obtain ⟨h1, h2, h3⟩ := sv_iff.mp q2
      obtain ⟨xs, hm⟩ := h.al x c h1 h2
      rw [h3] at hm
      exact absurd hm (getH_none.mp q xs)
theorem sv_cut (W : Vals) (T : Cells) (z y : Str) (n : y ≠ z) (x c : Int) : sv (putV W T z) y x c = (sv W y x c && !T x c) := by
  unfold sv putV
  cases T x c with
  | true => rw [if_pos rfl, decide_eq_false (Ne.symm n)]; simp
  | false => rw [if_neg (by decide)]; simp
theorem sv_got (W : Vals) (T : Cells) (low : ∀ x c, T x c = true → 1 ≤ x ∧ 1 ≤ c) (z : Str) (x c : Int) : sv (putV W T z) z x c = ((sv W z x c && !T x c) || T x c) := by
  unfold sv putV
  cases q : T x c with
  | true =>
    have := low x c q
    rw [if_pos rfl, decide_eq_true this.1, decide_eq_true this.2]; simp
  | false => rw [if_neg (by decide)]; simp
theorem putH_mem {hs : Hs} (k : kn hs) {z : Str} {a : List Blk} (h : Str × List Blk) : h ∈ putH hs z a ↔ (h ∈ hs ∧ h.1 ≠ z) ∨ h = (z, a) := by
  unfold putH
  split
  · rename_i c
    obtain ⟨y, hy, e⟩ := List.any_eq_true.mp c
    have e := of_decide_eq_true e
    rw [List.mem_map]
    constructor
    · rintro ⟨u, hu, rfl⟩
      by_cases q : u.1 = z
      · rw [if_pos q]; exact .inr (by rw [q])
      · rw [if_neg q]; exact .inl ⟨hu, q⟩
    · rintro (⟨hm, n⟩ | rfl)
      · exact ⟨h, hm, if_neg n⟩
      · exact ⟨y, hy, by rw [if_pos e, e]⟩
  · rename_i c
    rw [List.mem_append, List.mem_singleton]
    refine ⟨fun q => q.imp (fun hm => ⟨hm, fun e => c (List.any_eq_true.mpr ⟨h, hm, decide_eq_true e⟩)⟩) id, fun q => q.imp (fun hm => hm.1) id⟩
section
variable {hs : Hs} {W : Vals} {T : Cells} {a : List Blk} {z : Str}
theorem map_get {f : List Blk → List Blk} (hs : Hs) (z : Str) : getH (hs.map fun h => (h.1, f h.2)) z = (getH hs z).map f := by
  unfold getH
  induction hs with
  | nil => rfl
  | cons h r ih =>
    rw [List.map_cons, List.find?_cons, List.find?_cons]
    dsimp only
    by_cases c : h.1 = z
    · rw [decide_eq_true c]; rfl
    · rw [decide_eq_false c]
      exact ih
theorem map_mem {f : List Blk → List Blk} {hs : Hs} {u : Str × List Blk} : (u ∈ hs.map fun h => (h.1, f h.2)) ↔ ∃ v ∈ hs, u = (v.1, f v.2) := by
  rw [List.mem_map]
  exact ⟨fun ⟨v, h, e⟩ => ⟨v, h, e.symm⟩, fun ⟨v, h, e⟩ => ⟨v, h, e.symm⟩⟩
theorem got_gen {f : List Blk → List Blk} {U : Cells} {o : Option (List Blk)} (h1 : ∀ xs, o = some xs → Canon U (f xs)) (h2 : o = none → ∀ x c, U x c = false) : Canon U ((o.map f).getD []) := by
  cases o with
  | some xs => exact h1 xs rfl
  | none => exact canon_none (h2 rfl)
theorem pair_fst {α β : Type} {u : α × β} {a : α} {b : β} (e : u = (a, b)) : u.1 = a := by subst e; rfl
theorem pair_snd {α β : Type} {u : α × β} {a : α} {b : β} (e : u = (a, b)) : u.2 = b := by subst e; rfl
theorem cut_get (z : Str) : getH (cutH hs a) z = (getH hs z).map fun xs => byA xs a fun a b => a && !b := by
  unfold cutH
  exact map_get (f := fun xs => byA xs a fun a b => a && !b) hs z
theorem cut_mem {u : Str × List Blk} : u ∈ cutH hs a ↔ ∃ v ∈ hs, u = (v.1, byA v.2 a fun a b => a && !b) := by
  unfold cutH
  exact map_mem (f := fun xs => byA xs a fun a b => a && !b)
theorem cut_kn (h : kn hs) : kn (cutH hs a) := by
  unfold cutH
  exact mapH_kn (f := fun c => byA c a fun a b => a && !b) h
theorem pre_iff (h : kn hs) (u : Str × List Blk) : u ∈ preH hs a z ↔ (u ∈ cutH hs a ∧ u.1 ≠ z) ∨ u = (z, byA (gotH hs a z) a fun a b => a || b) := by
  unfold preH
  exact putH_mem (cut_kn h) u
theorem got_canon (h : Holds hs W) (nW : NiceV W) (nT : Nice T) (ha : Canon T a) (z : Str) : Canon (fun x c => sv W z x c && !T x c) (gotH hs a z) ∧ Nice (fun x c => sv W z x c && !T x c) := by
  have b := by_canon (U := fun x c => sv W z x c && !T x c) (k := fun a b => a && !b) rfl (nW z) nT (h.get z) ha fun x c => rfl
  refine ⟨?_, b.2⟩
  unfold gotH
  rw [cut_get]
  refine got_gen (f := fun xs => byA xs a fun a b => a && !b) (fun xs e => ?_) fun e x c => ?_
  · rw [e] at b
    exact b.1
  · have := ((h.get z).nil_iff (nW z)).mp (by rw [e]; rfl)
    rw [this]; rfl
theorem put_nice (nW : NiceV W) (nT : Nice T) (hs : Holds hs W) (ha : Canon T a) (z : Str) : NiceV (putV W T z) := fun y => by
  by_cases e : y = z
  · subst e
    have g := got_canon hs nW nT ha y
    have b := by_canon (U := sv (putV W T y) y) (k := fun a b => a || b) rfl g.2 nT g.1 ha fun x c => sv_got W T nT.low y x c
    exact b.2
  · have b := by_canon (U := sv (putV W T z) y) (k := fun a b => a && !b) rfl (nW y) nT (hs.get y) ha fun x c => sv_cut W T z y e x c
    exact b.2
theorem pre_mem (h : Holds hs W) (nW : NiceV W) (nT : Nice T) (ha : Canon T a) (z : Str) : ∀ u ∈ preH hs a z, Canon (sv (putV W T z) u.1) u.2 := by
  intro u hu
  refine ((pre_iff h.kn u).mp hu).elim (fun q => ?_) (fun e => ?_)
  · have n := q.2
    refine (cut_mem.mp q.1).elim fun v w => ?_
    have hv := w.1
    have e := w.2
    have e1 : u.1 = v.1 := pair_fst e
    have e2 : u.2 = byA v.2 a fun a b => a && !b := pair_snd e
    rw [e1] at n
    rw [e1, e2]
    exact (by_canon (U := sv (putV W T z) v.1) (k := fun a b => a && !b) rfl (nW v.1) nT (h.cn v hv) ha fun x c => sv_cut W T z v.1 n x c).1
  · have g := got_canon h nW nT ha z
    have e1 : u.1 = z := pair_fst e
    have e2 : u.2 = byA (gotH hs a z) a fun a b => a || b := pair_snd e
    rw [e1, e2]
    exact (by_canon (U := sv (putV W T z) z) (k := fun a b => a || b) rfl g.2 nT g.1 ha fun x c => sv_got W T nT.low z x c).1
theorem fill_holds (h : Holds hs W) (nW : NiceV W) (nT : Nice T) (ha : Canon T a) (z : Str) : Holds (fillH hs a z) (putV W T z) := by
  have k2 : kn (preH hs a z) := by unfold preH; exact putH_kn (cut_kn h.kn)
  have nP := put_nice nW nT h ha z
  refine ⟨filterH_kn k2, fun u hu => ?_, fun u hu => pre_mem h nW nT ha z u (List.mem_filter.mp hu).1, fun x c hx hc => ?_⟩
  · have := (List.mem_filter.mp hu).2
    unfold nonE at this
    intro e
    rw [e] at this; cases this
  · have ex : ∃ xs, (putV W T z x c, xs) ∈ preH hs a z := by
      by_cases q : putV W T z x c = z
      · exact ⟨_, (pre_iff h.kn _).mpr (.inr (by rw [q]))⟩
      · have e : putV W T z x c = W x c := by
          unfold putV at q ⊢
          by_cases t : T x c = true
          · exact absurd (if_pos t) q
          · rw [if_neg t]
        obtain ⟨xs, hm⟩ := h.al x c hx hc
        rw [e] at q ⊢
        exact ⟨_, (pre_iff h.kn _).mpr (.inl ⟨cut_mem.mpr ⟨_, hm, rfl⟩, q⟩)⟩
    obtain ⟨xs, hm⟩ := ex
    refine ⟨xs, List.mem_filter.mpr ⟨hm, ?_⟩⟩
    have cn := pre_mem h nW nT ha z _ hm
    cases xs with
    | nil =>
      have := (cn.nil_iff (nP _)).mp rfl x c
      have q : sv (putV W T z) (putV W T z x c) x c = true := sv_iff.mpr ⟨hx, hc, rfl⟩
      have this : sv (putV W T z) (putV W T z x c) x c = false := this
      rw [this] at q; cases q
    | cons => rfl
theorem fill_ok (h : Holds hs W) (nW : NiceV W) (nT : Nice T) (ha : Canon T a) (z : Str) {R C : List Int} (cW : CutV W R C) (cT : CutS T R C) (l : R.length * C.length ≤ 1500) (la : R.length * C.length + a.length ≤ 1500) (lh : hs.length ≤ 50) : okFill hs a z = true := by
  have nP := put_nice nW nT h ha z
  unfold okFill
  rw [Bool.and_eq_true, Bool.and_eq_true, Bool.and_eq_true]
  have g := got_canon h nW nT ha z
  have cg : ∀ y, CutS (fun x c => sv W y x c && !T x c) R C := fun y => (cW.sv y).comb cT (fun a b => a && !b) fun x c => rfl
  refine ⟨⟨⟨List.all_eq_true.mpr fun v hv => ?_, ?_⟩, List.all_eq_true.mpr fun u hu => decide_eq_true ?_⟩, decide_eq_true lh⟩
  · exact by_ok (k := fun a b => a && !b) rfl (nW v.1) nT (h.cn v hv) ha (fun x c => rfl) (cg v.1) l (Nat.le_trans (Nat.add_le_add_right ((h.cn v hv).len (cW.sv _)) _) la)
  · exact by_ok (k := fun a b => a || b) rfl g.2 nT g.1 ha (fun x c => rfl) ((cg z).comb cT (fun a b => a || b) fun x c => rfl) l (Nat.le_trans (Nat.add_le_add_right (g.1.len (cg z)) _) la)
  · exact Nat.le_trans ((pre_mem h nW nT ha z u hu).len ((cW.put cT z).sv _)) l
theorem fill_len (hs : Hs) (a : List Blk) (z : Str) : (fillH hs a z).length ≤ hs.length + 1 := by
  refine Nat.le_trans (List.length_filter_le _ _) (Nat.le_trans (putH_len _ _ _) ?_)
  unfold cutH
  rw [List.length_map]
  exact Nat.le_refl _
theorem Holds.sz (h : Holds hs W) {R C : List Int} (cW : CutV W R C) (l : R.length * C.length ≤ 1500) : szH hs = true :=
  List.all_eq_true.mpr fun u hu => decide_eq_true (Nat.le_trans ((h.cn u hu).len (cW.sv _)) l)
end
/-- the sheet that is new -/
def new0 : Vals := fun _ _ => Str.ofString ""
theorem all1_cells (x c : Int) : cellsOf wholeB x c = sv new0 (Str.ofString "") x c := by
  show (isAt 1 none x && isAt 1 none c || false) = _
  unfold sv isAt new0
  simp
theorem new_holds : Holds [(Str.ofString "", norm wholeB)] new0 := by
  have ok : ∀ b ∈ wholeB, okB b = true := by decide
  have cn := norm_canon ok
  have e : cellsOf wholeB = sv new0 (Str.ofString "") := funext fun x => funext fun c => all1_cells x c
  rw [e] at cn
  have n := cellsOf_nice ok
  rw [e] at n
  refine ⟨by show ([Str.ofString ""] : List Str).Nodup; simp, fun h hm => ?_, fun h hm => ?_, fun x c hx hc => ⟨_, List.mem_singleton.mpr rfl⟩⟩
  · rw [List.mem_singleton.mp hm]
    intro q
    have := (cn.nil_iff n).mp q 1 1
    have t : sv new0 (Str.ofString "") 1 1 = true := sv_iff.mpr ⟨by decide, by decide, rfl⟩
    rw [this] at t; cases t
  · rw [List.mem_singleton.mp hm]; exact cn
theorem new_nice : NiceV new0 := fun z => by
  by_cases e : z = Str.ofString ""
  · have n := cellsOf_nice (xs := wholeB) (by decide)
    rw [show cellsOf wholeB = sv new0 (Str.ofString "") from funext fun x => funext fun c => all1_cells x c] at n
    rw [e]; exact n
  · have q : sv new0 z = fun _ _ => false := funext fun x => funext fun c => by
      unfold sv new0
      rw [decide_eq_false (Ne.symm e), Bool.and_false]
    rw [q]
    exact ⟨fun x => ⟨[], RunsOf.nil⟩, fun x c h => by cases h⟩
theorem new_cut : CutV new0 [1] [1] := ⟨by simp, by simp, fun x c _ h => absurd rfl h, fun x c _ h => absurd rfl h⟩
end G

/-! ## Geo5 -/
set_option Elab.async false
set_option linter.all false
set_option maxRecDepth 100000
namespace G
open PySem PySem.Spec PyProof.Rows L2
/-! ### a law's own look: fillings, the last one counts -/
abbrev Fill := List Blk × Str
def valF (ds : List Fill) : Vals := fun x c => ((ds.reverse.find? fun d => cellsOf d.1 x c).map (·.2)).getD (Str.ofString "")
theorem valF_nil : valF [] = new0 := rfl
theorem valF_snoc (ds : List Fill) (d : Fill) : valF (ds ++ [d]) = putV (valF ds) (cellsOf d.1) d.2 := by
  funext x c
  unfold valF putV
  rw [List.reverse_append, List.reverse_singleton, List.singleton_append, List.find?_cons]
  cases h : cellsOf d.1 x c with
  | true => rfl
  | false => rfl
/-! ### the law's runs of a row -/
abbrev LR := List Rn × Option Int
def lrStep (s : LR) (x : Int × Bool) : LR := match x.2, s.2 with
  | true, none => (s.1, some x.1)
  | true, some a => (s.1, some a)
  | false, none => (s.1, none)
  | false, some a => (s.1 ++ [(a, some (x.1 - 1))], none)
def lrFin (s : LR) : List Rn := match s.2 with
  | some a => s.1 ++ [(a, none)]
  | none => s.1
def lruns (cs : List Int) (ts : List Bool) : List Rn := lrFin ((cs.zip ts).foldl lrStep ([], none))
/-- the law's place in a row, and the program's -/
def LRel (s : LR) (acc : List Rn) (b : Int) : Prop := match s.2 with
  | none => acc = s.1 ∧ ∀ x ∈ acc, ∃ e, x.2 = some e ∧ e + 1 < b
  | some a => acc = s.1 ++ [(a, some (b - 1))] ∧ ∀ x ∈ s.1, ∃ e, x.2 = some e ∧ e + 1 < b
theorem withRun_far {rs : List Rn} {a : Int} {l : Option Int} (h : ∀ x ∈ rs, ∃ e, x.2 = some e ∧ e + 1 < a) : withRun rs a l = rs ++ [(a, l)] := by
  rcases rs.eq_nil_or_concat with rfl | ⟨init, last, rfl⟩
  · rfl
  · rw [List.concat_eq_append] at *
    obtain ⟨f, o⟩ := last
    obtain ⟨e, he, lt⟩ := h (f, o) (by simp)
    have he : o = some e := he
    subst he
    unfold withRun
    rw [List.getLast?_concat]
    show (if e = a - 1 then _ else _) = _
    rw [if_neg (by omega)]
theorem withRun_near {rs : List Rn} {f a : Int} {l : Option Int} : withRun (rs ++ [(f, some (a - 1))]) a l = rs ++ [(f, l)] := by
  unfold withRun
  rw [List.getLast?_concat]
  show (if a - 1 = a - 1 then _ else _) = _
  rw [if_pos rfl, List.dropLast_concat]
theorem lr_fold {kp : Int → Bool} : ∀ {cs : List Int} {b : Int} {s : LR} {acc : List Rn}, (b :: cs).Pairwise (· < ·) → LRel s acc b →
    lrFin (((b :: cs).zip ((b :: cs).map kp)).foldl lrStep s) = (strOf (b :: cs)).foldl (fun acc s => if kp s.1 = true then withRun acc s.1 s.2 else acc) acc
  | [], b, (f, o), acc, _, h => by
    show lrFin (lrStep (f, o) (b, kp b)) = if kp b = true then withRun acc b none else acc
    cases o with
    | none =>
      obtain ⟨e, far⟩ := h
      have e : acc = f := e
      subst e
      cases k : kp b with
      | true => rw [if_pos rfl, withRun_far far]; rfl
      | false => rfl
    | some a =>
      obtain ⟨e, far⟩ := h
      have e : acc = f ++ [(a, some (b - 1))] := e
      subst e
      cases k : kp b with
      | true => rw [if_pos rfl, withRun_near]; rfl
      | false => rfl
  | d :: cs, b, (f, o), acc, hs, h => by
    have h1 := List.pairwise_cons.mp hs
    have bd := h1.1 d (by simp)
    show lrFin (((d :: cs).zip ((d :: cs).map kp)).foldl lrStep (lrStep (f, o) (b, kp b))) = (strOf (d :: cs)).foldl _ (if kp b = true then withRun acc b (some (d - 1)) else acc)
    cases o with
    | none =>
      obtain ⟨e, far⟩ := h
      have e : acc = f := e
      subst e
      cases k : kp b with
      | true =>
        rw [if_pos rfl, withRun_far far]
        exact lr_fold h1.2 ⟨rfl, fun x hx => let ⟨e, he, lt⟩ := far x hx; ⟨e, he, by omega⟩⟩
      | false =>
        rw [if_neg (by decide)]
        exact lr_fold h1.2 ⟨rfl, fun x hx => let ⟨e, he, lt⟩ := far x hx; ⟨e, he, by omega⟩⟩
    | some a =>
      obtain ⟨e, far⟩ := h
      have e : acc = f ++ [(a, some (b - 1))] := e
      subst e
      cases k : kp b with
      | true =>
        rw [if_pos rfl, withRun_near]
        exact lr_fold h1.2 ⟨rfl, fun x hx => let ⟨e, he, lt⟩ := far x hx; ⟨e, he, by omega⟩⟩
      | false =>
        rw [if_neg (by decide)]
        refine lr_fold h1.2 ⟨rfl, fun x hx => ?_⟩
        rcases List.mem_append.mp hx with hx | hx
        · obtain ⟨e, he, lt⟩ := far x hx
          exact ⟨e, he, by omega⟩
        · rw [List.mem_singleton.mp hx]
          exact ⟨b - 1, rfl, by omega⟩
theorem const_on {α : Type} (f : Int → α) {a : Int} {l : Option Int} (h : ∀ c, a < c → isAt a l c = true → f c = f (c - 1)) : ∀ (n : Nat) {c : Int}, c = a + n → isAt a l c = true → f c = f a
  | 0, c, e, _ => by rw [e]; simp
  | n + 1, c, e, hc => by
    have q := isAt_iff.mp hc
    rw [h c (by omega) hc]
    exact const_on f h n (c := c - 1) (by omega) (isAt_iff.mpr ⟨by omega, fun e' he => by have := q.2 e' he; omega⟩)
theorem const_str {α : Type} {f : Int → α} {cs : List Int} (hs : cs.Pairwise (· < ·)) (hf : ∀ c, 2 ≤ c → f c ≠ f (c - 1) → c ∈ cs) (low : ∀ a ∈ cs, 1 ≤ a) {s : Rn} (h : s ∈ strOf cs) {c : Int} (hc : isAt s.1 s.2 c = true) : f c = f s.1 := by
  have m := strOf_mem hs h
  have l1 := low _ m.1
  have q := isAt_iff.mp hc
  refine const_on f (fun d lt hd => ?_) (c - s.1).toNat (by omega) hc
  by_cases e : f d = f (d - 1)
  · exact e
  · obtain ⟨x, hx, lx⟩ := m.2.1 d (hf d (by omega) e) lt
    have := (isAt_iff.mp hd).2 x hx
    omega
structure CutsOk (W : Vals) (R C : List Int) : Prop where
  cut : CutV W R C
  sr : R.Pairwise (· < ·)
  sc : C.Pairwise (· < ·)
  lr : ∀ a ∈ R, 1 ≤ a
  lc : ∀ a ∈ C, 1 ≤ a
theorem lruns_of {W : Vals} {R C : List Int} (h : CutsOk W R C) (z : Str) {x : Int} (hx : 1 ≤ x) : RunsOf (sv W z x) (lruns C (C.map fun c => decide (W x c = z))) := by
  have hne : C ≠ [] := fun e => by have := h.cut.2.1; rw [e] at this; cases this
  have e1 : lruns C (C.map fun c => decide (W x c = z)) = (strOf C).foldl (fun acc s => if (fun c => decide (W x c = z)) s.1 = true then withRun acc s.1 s.2 else acc) [] := by
    cases hC : C with
    | nil => exact absurd hC hne
    | cons b cs =>
      unfold lruns
      exact lr_fold (kp := fun c => decide (W x c = z)) (hC ▸ h.sc) ⟨rfl, fun x hx => nomatch hx⟩
  rw [e1]
  refine (fold_runs (kp := fun c => decide (W x c = z)) h.sc RunsOf.nil (fun a _ x hx => nomatch hx)).congr fun c => ?_
  rw [Bool.false_or, Bool.eq_iff_iff, sv_iff, List.any_eq_true]
  have const : ∀ {s : Rn}, s ∈ strOf C → isAt s.1 s.2 c = true → W x c = W x s.1 := fun hs hc => const_str (f := W x) h.sc (fun d l ne => h.cut.2.2.2 x d l ne) h.lc hs hc
  constructor
  · rintro ⟨_, h2, h3⟩
    obtain ⟨s, hs, hc⟩ := strOf_cover h.cut.2.1 h2
    exact ⟨s, hs, by rw [hc, ← const hs hc, decide_eq_true h3]; rfl⟩
  · rintro ⟨s, hs, hc⟩
    rw [Bool.and_eq_true, decide_eq_true_eq] at hc
    have := h.lc _ (strOf_mem h.sc hs).1
    have := (isAt_iff.mp hc.2).1
    exact ⟨hx, by omega, by rw [const hs hc.2]; exact hc.1⟩
/-! ### the law's form of a value -/
abbrev LF := List Blk × Bg
def lfStep (s : LF) (x : Int × List Rn) : LF := (s.1 ++ (s.2.filter fun y => !x.2.contains y.1).map (mkB (some (x.1 - 1))), x.2.foldl (setd x.1) (s.2.filter fun y => x.2.contains y.1))
def lfRaw (s : LF) : List Blk := s.1 ++ s.2.map (mkB none)
def lform (rows : List Int) (runs : List (List Rn)) : List Blk := sortB (lfRaw ((rows.zip runs).foldl lfStep ([], [])))
theorem lf_fold {S : Cells} (n : Nice S) {Rf : Int → List Rn} : ∀ {rs : List Int} {a : Int} {s : LF}, (a :: rs).Pairwise (· < ·) → (∀ st ∈ strOf (a :: rs), ∀ x, isAt st.1 st.2 x = true → ∀ r, r ∈ Rf st.1 ↔ MaxRun (S x) r) → Inv S s.1 s.2 (some (a - 1)) →
    Inv S (((a :: rs).zip ((a :: rs).map Rf)).foldl lfStep s).1 (((a :: rs).zip ((a :: rs).map Rf)).foldl lfStep s).2 none
  | [], a, s, _, hR, h => by
    have := h.adv n (o := none) (Rf a) (by rw [Int.sub_add_cancel]; exact hR (a, none) (by simp [strOf])) (fun e he => by cases he)
    rw [Int.sub_add_cancel] at this
    exact this
  | b :: rs, a, s, hs, hR, h => by
    have h1 := List.pairwise_cons.mp hs
    have ab := h1.1 b (by simp)
    have := h.adv n (o := some (b - 1)) (Rf a) (by rw [Int.sub_add_cancel]; exact hR (a, some (b - 1)) (by simp [strOf])) (fun e he => by cases he; omega)
    rw [Int.sub_add_cancel] at this
    exact lf_fold n h1.2 (fun st hst => hR st (List.mem_cons_of_mem _ hst)) (s := lfStep s (a, Rf a)) this
/-- the truths of a value in a row's places -/
def lrow (W : Vals) (C : List Int) (z : Str) (x : Int) : List Rn := lruns C (C.map fun c => decide (W x c = z))
theorem lform_canon {W : Vals} {R C : List Int} (h : CutsOk W R C) {z : Str} (n : Nice (sv W z)) : Canon (sv W z) (lform R (R.map (lrow W C z))) := by
  have F : ∀ {rs : List Int} {a : Int}, R = a :: rs → Inv (sv W z) ((R.zip (R.map (lrow W C z))).foldl lfStep ([], [])).1 ((R.zip (R.map (lrow W C z))).foldl lfStep ([], [])).2 none := fun {rs a} e => by
    have ha : a = 1 := by
      have h1 : (1 : Int) ∈ a :: rs := e ▸ h.cut.1
      have l := h.lr a (by rw [e]; simp)
      have s := List.pairwise_cons.mp (e ▸ h.sr)
      rcases List.mem_cons.mp h1 with q | q
      · exact q.symm
      · have := s.1 1 q; omega
    rw [e]
    refine lf_fold n (e ▸ h.sr) (fun st hst x hx r => ?_) (by rw [ha]; exact Inv.start n)
    rw [← e] at hst
    have l1 := h.lr _ (strOf_mem h.sr hst).1
    have lx := (isAt_iff.mp hx).1
    have ex : sv W z x = sv W z st.1 := by
      funext c
      have q : W x c = W st.1 c := const_str (f := fun x => W x c) h.sr (fun d l ne => h.cut.2.2.1 d c l ne) h.lr hst hx
      unfold sv
      rw [q, decide_eq_true (show 1 ≤ x by omega), decide_eq_true l1]
    rw [ex]
    exact (lruns_of h z l1).mem r
  cases hR : R with
  | nil => have := h.cut.1; rw [hR] at this; cases this
  | cons a rs =>
    have q := (F hR).fin (fun e x he => by cases he)
    rw [← hR]
    exact canon_sort q.1 q.2
/-! ### the values that some cell has -/
def atCuts (W : Vals) (R C : List Int) : List Str := R.flatMap fun x => C.map fun c => W x c
theorem keys_cuts {hs : Hs} {W : Vals} {R C : List Int} (h : Holds hs W) (k : CutsOk W R C) (z : Str) : z ∈ hs.map (·.1) ↔ z ∈ atCuts W R C := by
  unfold atCuts
  rw [List.mem_map, List.mem_flatMap]
  constructor
  · rintro ⟨u, hu, rfl⟩
    cases hb : u.2 with
    | nil => exact absurd hb (h.ne u hu)
    | cons B r =>
      have m := ((h.cn u hu).2.2 B).mp (by rw [hb]; simp)
      have q := max_cut R C (k.cut.sv u.1) m
      have v := sv_iff.mp (m.1 _ m.top).first
      exact ⟨B.t, q.1, List.mem_map.mpr ⟨B.l, q.2, v.2.2⟩⟩
  · rintro ⟨x, hx, q⟩
    obtain ⟨c, hc, rfl⟩ := List.mem_map.mp q
    obtain ⟨xs, hm⟩ := h.al x c (k.lr x hx) (k.lc c hc)
    exact ⟨_, hm, rfl⟩
/-! ### cuts that go on -/
theorem cutsOf_len (es : List Rn) : (cutsOf es).length ≤ 2 * es.length := by
  unfold cutsOf
  rw [List.length_append, List.length_map]
  have := List.length_filterMap_le (fun e : Rn => e.2.map (· + 1)) es
  omega
theorem rowCuts_low {xs : List Blk} (hx : ∀ b ∈ xs, okB b = true) : ∀ a ∈ rowCuts xs, 1 ≤ a := fun a ha => by
  rcases List.mem_append.mp ha with h | h
  · obtain ⟨z, hz, rfl⟩ := List.mem_map.mp h
    obtain ⟨b, hb, rfl⟩ := List.mem_map.mp hz
    exact (okB_iff.mp (hx b hb)).1
  · obtain ⟨z, hz, e⟩ := List.mem_filterMap.mp h
    obtain ⟨b, hb, rfl⟩ := List.mem_map.mp hz
    have o := okB_iff.mp (hx b hb)
    cases q : b.b with
    | none =>
      have e : (b.b).map (· + 1) = some a := e
      rw [q] at e; cases e
    | some l =>
      have e : (b.b).map (· + 1) = some a := e
      rw [q] at e
      cases e
      have := o.2.2.1 l q
      have := o.1
      show 1 ≤ l + 1
      omega
theorem colCuts_low {xs : List Blk} (hx : ∀ b ∈ xs, okB b = true) : ∀ a ∈ colCuts xs, 1 ≤ a := fun a ha => by
  rcases List.mem_append.mp ha with h | h
  · obtain ⟨z, hz, rfl⟩ := List.mem_map.mp h
    obtain ⟨b, hb, rfl⟩ := List.mem_map.mp hz
    exact (okB_iff.mp (hx b hb)).2.1
  · obtain ⟨z, hz, e⟩ := List.mem_filterMap.mp h
    obtain ⟨b, hb, rfl⟩ := List.mem_map.mp hz
    have o := okB_iff.mp (hx b hb)
    cases q : b.r with
    | none =>
      have e : (b.r).map (· + 1) = some a := e
      rw [q] at e; cases e
    | some l =>
      have e : (b.r).map (· + 1) = some a := e
      rw [q] at e
      cases e
      have := o.2.2.2 l q
      have := o.2.1
      show 1 ≤ l + 1
      omega
theorem CutsOk.new : CutsOk new0 [1] [1] := ⟨new_cut, by simp, by simp, by simp, by simp⟩
theorem CutsOk.put {W : Vals} {R C : List Int} (h : CutsOk W R C) {xs : List Blk} (hx : ∀ b ∈ xs, okB b = true) (z : Str) : CutsOk (putV W (cellsOf xs) z) (sd (R ++ rowCuts xs)) (sd (C ++ colCuts xs)) := by
  have c1 := h.cut.mono (R' := sd (R ++ rowCuts xs)) (C' := sd (C ++ colCuts xs)) (fun x hx => (sd_mem _ _).mpr (List.mem_append_left _ hx)) fun x hx => (sd_mem _ _).mpr (List.mem_append_left _ hx)
  have c2 := (cells_cut hx).mono (R' := sd (R ++ rowCuts xs)) (C' := sd (C ++ colCuts xs)) (fun x hx => (sd_mem _ _).mpr (List.mem_append_right _ hx)) fun x hx => (sd_mem _ _).mpr (List.mem_append_right _ hx)
  refine ⟨c1.put c2 z, sd_lt _, sd_lt _, fun a ha => ?_, fun a ha => ?_⟩
  · exact (List.mem_append.mp ((sd_mem _ _).mp ha)).elim (h.lr a) (rowCuts_low hx a)
  · exact (List.mem_append.mp ((sd_mem _ _).mp ha)).elim (h.lc a) (colCuts_low hx a)
end G

/-! ## Geo6 -/
set_option Elab.async false
set_option linter.all false
set_option maxRecDepth 100000
namespace G
open PySem PySem.Spec PyProof.Rows L2
/-! ### the pairs of a sheet, and a law's -/
def pk (p : Blk × Str) : Int × Int := (p.1.t, p.1.l)
def lpairs (F : Str → List Blk) (ys : List Str) : List (Blk × Str) := ys.flatMap fun z => if z = Str.ofString "" then [] else (F z).map fun b => (b, z)
def lorder (ps : List (Blk × Str)) (cells : List (Int × Int)) : List (Blk × Str) := cells.flatMap fun k => ps.filter fun p => decide (pk p = k)
theorem rawP_keys : ∀ {hs : Hs}, kn hs → rawP hs = lpairs (fun z => (getH hs z).getD []) (hs.map (·.1)) := fun {hs} k => by
  unfold rawP lpairs
  rw [List.flatMap_map]
  have e : ∀ h ∈ hs, (getH hs h.1).getD [] = h.2 := fun h hm => by rw [(getH_mem k).mpr (show (h.1, h.2) ∈ hs from hm)]; rfl
  clear k
  have gen : ∀ (G : Str → List Blk) (l : Hs), (∀ h ∈ l, G h.1 = h.2) → (l.flatMap fun h => if h.1 = Str.ofString "" then [] else h.2.map fun b => (b, h.1)) = l.flatMap fun h => if h.1 = Str.ofString "" then [] else (G h.1).map fun b => (b, h.1) := fun G l => by
    induction l with
    | nil => intro _; rfl
    | cons h r ih =>
      intro e
      rw [List.flatMap_cons, List.flatMap_cons, ih fun x hx => e x (List.mem_cons_of_mem _ hx), e h (by simp)]
  exact gen (fun z => (getH hs z).getD []) hs e
theorem lpairs_congr {F G : Str → List Blk} : ∀ {ys : List Str}, (∀ z ∈ ys, F z = G z) → lpairs F ys = lpairs G ys
  | [], _ => rfl
  | y :: ys, h => by
    have ih := lpairs_congr (F := F) (G := G) (ys := ys) fun z hz => h z (List.mem_cons_of_mem _ hz)
    unfold lpairs at ih ⊢
    rw [List.flatMap_cons, List.flatMap_cons, ih, h y (by simp)]
theorem lpairs_perm {hs : Hs} (k : kn hs) {F : Str → List Blk} {ys : List Str} (p : ys.Perm (hs.map (·.1))) (hF : ∀ z ∈ ys, F z = (getH hs z).getD []) : (lpairs F ys).Perm (rawP hs) := by
  rw [lpairs_congr hF, rawP_keys k]
  unfold lpairs
  exact p.flatMap_right _
theorem perm_keyed {α : Type} (key : α → Int × Int) : ∀ {a b : List α}, a.Perm b → a.Pairwise (fun x y => lexLe (key x) (key y)) → b.Pairwise (fun x y => lexLe (key x) (key y)) → (∀ x ∈ b, ∀ y ∈ b, key x = key y → x = y) → a = b
  | [], b, p, _, _, _ => p.nil_eq
  | x :: a, [], p, _, _, _ => absurd p.length_eq (by simp)
  | x :: a, y :: b, p, ha, hb, hn => by
    have ha' := List.pairwise_cons.mp ha
    have hb' := List.pairwise_cons.mp hb
    have hx : x ∈ y :: b := p.mem_iff.mp (by simp)
    have hy : y ∈ x :: a := p.mem_iff.mpr (by simp)
    have e : x = y := by
      rcases List.mem_cons.mp hx with e | e
      · exact e
      · rcases List.mem_cons.mp hy with f | f
        · exact f.symm
        · have q1 := hb'.1 x e
          have q2 := ha'.1 y f
          unfold lexLe at q1 q2
          exact hn x hx y (by simp) (Prod.ext (by omega) (by omega))
    subst e
    rw [perm_keyed key (List.Perm.cons_inv p) ha'.2 hb'.2 fun u hu v hv => hn u (List.mem_cons_of_mem _ hu) v (List.mem_cons_of_mem _ hv)]
theorem group_perm : ∀ {cells : List (Int × Int)} {ps : List (Blk × Str)}, cells.Nodup → (∀ p ∈ ps, pk p ∈ cells) → (lorder ps cells).Perm ps
  | [], ps, _, h => by
    cases ps with
    | nil => exact .nil
    | cons p r => exact absurd (h p (by simp)) (by simp)
  | k :: cells, ps, nd, h => by
    have nd' := List.nodup_cons.mp nd
    have ih := group_perm (cells := cells) (ps := ps.filter fun p => !decide (pk p = k)) nd'.2 fun p hp => by
      obtain ⟨h1, h2⟩ := List.mem_filter.mp hp
      rcases List.mem_cons.mp (h p h1) with e | e
      · rw [e] at h2; simp at h2
      · exact e
    have e : lorder (ps.filter fun p => !decide (pk p = k)) cells = lorder ps cells := by
      unfold lorder
      have gen : ∀ l : List (Int × Int), (∀ c ∈ l, c ≠ k) → (l.flatMap fun c => (ps.filter fun p => !decide (pk p = k)).filter fun p => decide (pk p = c)) = l.flatMap fun c => ps.filter fun p => decide (pk p = c) := fun l => by
        induction l with
        | nil => intro _; rfl
        | cons c r ih2 =>
          intro hn
          rw [List.flatMap_cons, List.flatMap_cons, ih2 fun x hx => hn x (List.mem_cons_of_mem _ hx), List.filter_filter]
          congr 1
          refine List.filter_congr fun p _ => ?_
          by_cases q : pk p = c
          · rw [decide_eq_true q, decide_eq_false (by rw [q]; exact hn c (by simp))]; rfl
          · rw [decide_eq_false q]; rfl
      exact gen cells fun c hc e => nd'.1 (by rw [← e]; exact hc)
    rw [e] at ih
    unfold lorder
    rw [List.flatMap_cons]
    exact (ih.append_left _).trans (List.filter_append_perm _ _)
theorem group_sorted {cells : List (Int × Int)} {ps : List (Blk × Str)} (h : cells.Pairwise lexLe) : (lorder ps cells).Pairwise fun x y => lexLe (pk x) (pk y) := by
  unfold lorder
  refine List.pairwise_flatMap.mpr ⟨fun k _ => ?_, h.imp fun {a b} l x hx y hy => ?_⟩
  · refine List.Pairwise.imp_of_mem (R := fun _ _ => True) (fun {a b} ha hb _ => ?_) (List.pairwise_of_forall fun _ _ => trivial)
    have e1 := of_decide_eq_true (List.mem_filter.mp ha).2
    have e2 := of_decide_eq_true (List.mem_filter.mp hb).2
    rw [e1, e2]
    exact .inr ⟨rfl, Int.le_refl _⟩
  · have e1 := of_decide_eq_true (List.mem_filter.mp hx).2
    have e2 := of_decide_eq_true (List.mem_filter.mp hy).2
    rw [e1, e2]; exact l
theorem rawP_mem {hs : Hs} {p : Blk × Str} (h : p ∈ rawP hs) : ∃ u ∈ hs, u.1 = p.2 ∧ p.1 ∈ u.2 := by
  obtain ⟨u, hu, q⟩ := List.mem_flatMap.mp h
  split at q
  · cases q
  · obtain ⟨b, hb, rfl⟩ := List.mem_map.mp q
    exact ⟨u, hu, rfl, hb⟩
theorem rawP_inj {hs : Hs} {W : Vals} (h : Holds hs W) : ∀ x ∈ rawP hs, ∀ y ∈ rawP hs, pk x = pk y → x = y := by
  intro x hx y hy e
  obtain ⟨u, hu, eu, bu⟩ := rawP_mem hx
  obtain ⟨v, hv, ev, bv⟩ := rawP_mem hy
  have mx := ((h.cn u hu).2.2 _).mp bu
  have my := ((h.cn v hv).2.2 _).mp bv
  have vx := (sv_iff.mp (mx.1 _ mx.top).first).2.2
  have vy := (sv_iff.mp (my.1 _ my.top).first).2.2
  obtain ⟨e1, e2⟩ := Prod.mk.inj e
  have e1 : x.1.t = y.1.t := e1
  have e2 : x.1.l = y.1.l := e2
  have vx : W x.1.t x.1.l = u.1 := vx
  have vy : W y.1.t y.1.l = v.1 := vy
  have euv : u.1 = v.1 := by rw [← vx, ← vy, e1, e2]
  rw [← euv] at my
  exact Prod.ext (mx.key my e1 e2) (by rw [← eu, ← ev, euv])
theorem rawP_nodup {hs : Hs} {W : Vals} (h : Holds hs W) : (rawP hs).Nodup := by
  rw [List.nodup_iff_pairwise_ne]
  unfold rawP
  refine List.pairwise_flatMap.mpr ⟨fun u hu => ?_, ?_⟩
  · split
    · exact .nil
    · have := (h.cn u hu).2.1
      rw [List.nodup_iff_pairwise_ne] at this
      exact List.pairwise_map.mpr (this.imp fun {a b} ne e => ne (Prod.mk.inj e).1)
  · have k : hs.Pairwise fun a b => a.1 ≠ b.1 := by
      have := h.kn
      unfold kn at this
      rw [List.nodup_iff_pairwise_ne] at this
      exact List.pairwise_map.mp this
    have snd : ∀ (u : Str × List Blk) (x : Blk × Str), (x ∈ if u.1 = Str.ofString "" then [] else u.2.map fun b => (b, u.1)) → x.2 = u.1 := fun u x hx => by
      split at hx
      · cases hx
      · obtain ⟨b, _, rfl⟩ := List.mem_map.mp hx
        rfl
    exact k.imp fun {a b} ne x hx y hy e => ne (by rw [← snd a x hx, ← snd b y hy, e])
/-- a law's pairs in its order are the sheet's -/
theorem order_eq {hs : Hs} {W : Vals} (h : Holds hs W) {ps ss : List (Blk × Str)} {cells : List (Int × Int)} (p : ps.Perm (rawP hs)) (pc : cells.Perm (ps.map pk)) (sc : cells.Pairwise lexLe) (q : ss.Perm (rawP hs)) (so : ss.Pairwise fun x y => lexLe (pk x) (pk y)) : lorder ps cells = ss := by
  have inj := rawP_inj h
  have nd : cells.Nodup := by
    refine pc.nodup_iff.mpr ?_
    have := p.nodup_iff.mpr (rawP_nodup h)
    rw [List.nodup_iff_pairwise_ne] at *
    exact List.pairwise_map.mpr (List.Pairwise.imp_of_mem (fun {a b} ha hb ne e => ne (inj a (p.mem_iff.mp ha) b (p.mem_iff.mp hb) e)) this)
  refine perm_keyed pk (((group_perm nd fun x hx => pc.mem_iff.mpr (List.mem_map_of_mem hx)).trans p).trans q.symm) (group_sorted sc) so fun x hx y hy => inj x (q.mem_iff.mp hx) y (q.mem_iff.mp hy)
end G

/-! ## GLaw4 -/
set_option Elab.async false
set_option linter.all false
set_option maxRecDepth 100000
namespace G
open PySem PySem.Spec PyProof.Rows L2
/-! ### what is compared place by place -/
def pdO : Option Int → PyData
  | none => .none
  | some i => .int i
def quadD (b : Blk) : PyData := .tuple [.int b.t, .int b.l, pdO b.b, pdO b.r]
section
variable {K : PySem.W.Frag} {G H : Hp} {Q : VK}
theorem dp_opt (o : Option Int) : Dp K H (optV o) (pdO o) := by cases o <;> constructor
theorem dp_quad {t : Addr} {b : Blk} (h : H t = some (quad b)) : Dp K H (.ref t) (quadD b) := .tup (sqt h) (.cons (.int _) (.cons (.int _) (.cons (dp_opt _) (.cons (dp_opt _) .nil))))
theorem quad_can (b : Blk) : (quadD b).canLay0 = true := by
  obtain ⟨t, l, o, r⟩ := b
  cases o <;> cases r <;> rfl
theorem quad_depth (b : Blk) : (quadD b).depth = 1 := by
  obtain ⟨t, l, o, r⟩ := b
  cases o <;> cases r <;> rfl
theorem shaped_of {d : PyData} (h : d.canLay0 = true) (g : d.depth ≤ 64) : SeqAt.shaped d = true := by
  unfold SeqAt.shaped
  rw [h, decide_eq_true g]; rfl
theorem can_all {α : Type} {f : α → PyData} (h : ∀ a, (f a).canLay0 = true) : ∀ xs : List α, PyData.canLayAll0 (xs.map f) = true
  | [] => rfl
  | x :: xs => by
    show (PyData.canLay0 (f x) && PyData.canLayAll0 (xs.map f)) = true
    rw [h x, can_all h xs]; rfl
theorem depth_all {α : Type} {f : α → PyData} {n : Nat} (h : ∀ a, (f a).depth ≤ n) : ∀ xs : List α, PyData.depthAll (xs.map f) ≤ n
  | [] => Nat.zero_le _
  | x :: xs => by
    show max (PyData.depth (f x)) (PyData.depthAll (xs.map f)) ≤ n
    exact Nat.max_le.mpr ⟨h x, depth_all h xs⟩
/-- a list of things that read as data -/
theorem dp_list {α : Type} {R : Rp α} {f : α → PyData} (h : ∀ v a, R G v a → Dp K H v (f a)) {v : V} {xs : List α} (hx : IsL R G v xs) (e : Ex G H) : Dp K H v (.list (xs.map f)) := by
  obtain ⟨p, ws, rfl, hp, hr⟩ := hx
  refine .lst (sq (e _ _ hp)) ?_
  clear hp
  induction hr with
  | nil => exact .nil
  | cons r t ih => exact .cons (h _ _ r) ih
theorem shaped_list {α : Type} {f : α → PyData} {n : Nat} (h : ∀ a, (f a).canLay0 = true) (g : ∀ a, (f a).depth ≤ n) (hn : n < 64) (xs : List α) : SeqAt.shaped (.list (xs.map f)) = true :=
  shaped_of (can_all h xs) (by show PyData.depthAll (xs.map f) + 1 ≤ 64; have := depth_all g xs; omega)
/-- two lists that hold the same are not unlike -/
theorem neList {α : Type} {R S : Rp α} {f : α → PyData} {n : Nat} (hR : ∀ v a, R G v a → Dp K H v (f a)) (hS : ∀ v a, S G v a → Dp K H v (f a)) (hc : ∀ a, (f a).canLay0 = true) (hd : ∀ a, (f a).depth ≤ n) (hn : n < 64) {v u : V} {xs : List α} (hx : IsL R G v xs) (hy : IsL S G u xs) (e : Ex G H) (q : Q (.bl false) H) : rNeD K v u H Q := by
  have sh := shaped_list hc hd hn xs
  refine ⟨_, _, dp_list hR hx e, dp_list hS hy e, sh, sh, ?_⟩
  have := SeqAt.eqv_refl _ (SeqAt.canLay_of_shaped sh)
  rw [this]; exact q
theorem dp_isTB (e : Ex G H) {v : V} {b : Blk} (h : IsTB G v b) : Dp K H v (quadD b) := by
  obtain ⟨t, rfl, h⟩ := h
  exact dp_quad (e _ _ h)
/-- a block and a value, both by tuples -/
abbrev IsTP : Rp (Blk × Str) := IsT2 IsTB IsS
theorem IsTP.mono : Mono IsTP := IsT2.mono IsTB.mono IsS.mono
def pairD (p : Blk × Str) : PyData := .tuple [quadD p.1, .str p.2]
theorem dp_isTP (e : Ex G H) {v : V} {p : Blk × Str} (h : IsTP G v p) : Dp K H v (pairD p) := by
  obtain ⟨t, w1, w2, rfl, ht, h1, h2⟩ := h
  have h2 : w2 = .str p.2 := h2
  subst h2
  exact .tup (sqt (e _ _ ht)) (.cons (dp_isTB e h1) (.cons (.str _) .nil))
theorem dp_int {v : V} {i : Int} (h : IsI G v i) : Dp K H v (.int i) := by
  have h : v = .int i := h
  subst h; exact .int _
def iiD (p : Int × Int) : PyData := .tuple [.int p.1, .int p.2]
theorem dp_ii (e : Ex G H) {v : V} {p : Int × Int} (h : IsII G v p) : Dp K H v (iiD p) := by
  obtain ⟨t, w1, w2, rfl, ht, h1, h2⟩ := h
  have h1 : w1 = .int p.1 := h1
  have h2 : w2 = .int p.2 := h2
  subst h1 h2
  exact .tup (sqt (e _ _ ht)) (.cons (.int _) (.cons (.int _) .nil))
theorem ii_eqv (p q : Int × Int) : PyData.eqv (iiD p) (iiD q) = decide (p = q) := by
  unfold iiD
  simp only [PyData.eqv, PyData.eqvAll, Bool.and_true]
  by_cases h : p = q
  · subst h; simp
  · rw [decide_eq_false h]
    by_cases h1 : p.1 = q.1
    · by_cases h2 : p.2 = q.2
      · exact absurd (Prod.ext h1 h2) h
      · simp [h1, h2]
    · simp [h1]
theorem eqII (e : Ex G H) {v u : V} {p q : Int × Int} (h : IsII G v p) (g : IsII G u q) (k : Q (.bl (decide (p = q))) H) : rEqD K v u H Q :=
  ⟨_, _, dp_ii e h, dp_ii e g, rfl, rfl, by rw [ii_eqv]; exact k⟩
theorem dp_str {v : V} {z : Str} (h : IsS G v z) : Dp K H v (.str z) := by
  have h : v = .str z := h
  subst h; exact .str _
end
/-! ### == of blocks and of areas that hold the same -/
def RB (K : PySem.W.Frag) (a b : Addr) (H : Hp) : Prop := ∃ x dx dy, H a = some (.ins (He.ga K "Block") dx (blkF x)) ∧ H b = some (.ins (He.ga K "Block") dy (blkF x))
def RA (K : PySem.W.Frag) (a b : Addr) (H : Hp) : Prop := ∃ xs dx dy p q us vs, H a = some (.ins (He.ga K "Area") dx (arF p)) ∧ H b = some (.ins (He.ga K "Area") dy (arF q)) ∧ H p = some (.lst us) ∧ H q = some (.lst vs) ∧ Paired (IsBlk K H) us xs ∧ Paired (IsBlk K H) vs xs
theorem RB.mon {K : PySem.W.Frag} : ∀ a b H H', Ext H H' → RB K a b H → RB K a b H' := fun a b H H' e ⟨x, dx, dy, h1, h2⟩ => ⟨x, dx, dy, e _ _ h1, e _ _ h2⟩
theorem blk_prs {K : PySem.W.Frag} {H : Hp} : ∀ {us vs : List V} {xs : List Blk}, Paired (IsBlk K H) us xs → Paired (IsBlk K H) vs xs → Prs (DIns (He.ga K "Block") (RB K)) us vs H
  | _, _, _, .nil, .nil => Prs.nil
  | _, _, _, .cons r t, .cons r' t' => by
    obtain ⟨p, dx, rfl, h1⟩ := r
    obtain ⟨q, dy, rfl, h2⟩ := r'
    exact Prs.cons ⟨p, q, dx, dy, _, _, rfl, rfl, h1, h2, _, dx, dy, h1, h2⟩ (blk_prs t t')
theorem area_RA {K : PySem.W.Frag} {G H : Hp} {a b : Addr} {xs : List Blk} (h : IsAr K G (.ref a) xs) (g : IsAr K G (.ref b) xs) (e : Ex G H) : RA K a b H := by
  obtain ⟨_, dx, p, e1, h1, _, us, e2, h2, h3⟩ := h
  obtain ⟨_, dy, q, f1, g1, _, vs, f2, g2, g3⟩ := g
  cases e1; cases f1; cases e2; cases f2
  exact ⟨xs, dx, dy, p, q, us, vs, e _ _ h1, e _ _ g1, e _ _ h2, e _ _ g2, paired_imp (fun a b q => IsBlk.mono _ _ a b e q) h3, paired_imp (fun a b q => IsBlk.mono _ _ a b e q) g3⟩
end G

/-! ## PV -/
set_option Elab.async false
set_option linter.all false
set_option maxRecDepth 100000
set_option maxHeartbeats 400000
namespace GT
open PySem PySem.Spec PyProof.Rows L2 G
local macro_rules | `(tactic| walk_at "ex") => `(tactic| first | exact Ex.refl _ | assumption | exact Stm.g (by assumption) | (refine Ex.trans ?_ (Stm.g (by assumption)); walk_at "ex"))
local macro_rules | `(tactic| walk_at "st") => `(tactic| first | exact Stm.refl (by assumption) | assumption | (refine Stm.trans ?_ (by assumption); walk_at "st"))
local macro_rules | `(tactic| walk_at "i") => `(tactic| first | assumption | exact Stm.i (by assumption))
local macro_rules | `(tactic| walk_at "fact") => `(tactic| first | rfl | exact (rfl : V.non = optV none) | exact (rfl : V.int _ = optV (some _)) | assumption)
local macro_rules | `(tactic| walk_at "g") => `(tactic| first
  | with_reducible refine x_seq ?_
  | with_reducible refine x_next ?_
  | with_reducible refine x_asg ?_
  | with_reducible refine x_ret ?_
  | with_reducible refine x_retN ?_
  | with_reducible refine x_drop ?_
  | with_reducible refine x_ifs ?_
  | ((with_reducible refine' x_var ?hv ?_); (case hv => exact rfl))
  | with_reducible refine x_c ?_
  | with_reducible refine x_op ?_
  | with_reducible refine x_un ?_
  | with_reducible refine x_test ?_
  | with_reducible refine x_B ?_
  | with_reducible refine x_bl ?_
  | with_reducible refine x_and ?_
  | with_reducible refine x_or ?_
  | with_reducible refine x_not ?_
  | with_reducible refine x_andV ?_
  | with_reducible refine x_orV ?_
  | with_reducible refine x_notV ?_
  | with_reducible refine x_ife ?_
  | with_reducible refine x_isN ?_
  | with_reducible refine x_notN ?_
  | with_reducible refine x_nil ?_
  | with_reducible refine x_cons ?_
  | with_reducible refine x_cb ?_
  | with_reducible refine x_call ?_
  | ((with_reducible refine' x_callL ?hv ?_); (case hv => exact rfl))
  | with_reducible refine x_gname ?_
  | with_reducible refine x_I0 ?_
  | ((with_reducible refine' x_eq ?hv ?_); (case hv => exact rfl))
  | ((with_reducible refine' x_ne ?hv ?_); (case hv => exact rfl))
  | with_reducible refine x_tupG ?_
  | with_reducible refine x_lstG ?_
  | with_reducible refine x_lc ?_
  | (with_reducible refine x_U ?_)
  | ((with_reducible refine' ite_T ?hv ?_); (case hv => exact rfl))
  | ((with_reducible refine' ite_F ?hv ?_); (case hv => exact rfl))
  | with_reducible refine x_for ?_
  | with_reducible refine x_iEnum ?_
  | with_reducible refine x_iList ?_
  | with_reducible refine x_iTup ?_
  | with_reducible refine x_gcons ?_
  | with_reducible refine x_gnil ?_
  | with_reducible refine x_bm ?_
  | with_reducible refine x_fldG ?_
  | with_reducible refine x_meth ?_
  | with_reducible refine x_sl ?_
  | with_reducible refine x_nopart ?_
  | with_reducible refine x_part ?_
  | with_reducible refine x_int ?_
  | with_reducible refine x_yes ?_
  | with_reducible refine x_isNG ?_
  | with_reducible refine x_notNG ?_
  | fail "no step")
local macro_rules | `(tactic| walk_at "g2") => `(tactic| first
  | with_reducible refine x_sfld ?_
  | with_reducible refine x_make ?_
  | with_reducible refine x_dnew ?_
  | with_reducible refine x_lcT ?_
  | with_reducible refine x_lcS ?_
  | with_reducible refine x_disp ?_
  | with_reducible refine x_pcons ?_
  | with_reducible refine x_pnil ?_
  | with_reducible refine x_dnewK ?_
  | with_reducible refine x_dput ?_
  | with_reducible refine x_gsub ?_
  | with_reducible refine x_dget2 ?_
  | with_reducible refine x_litems ?_
  | with_reducible refine x_bmX ?_
  | with_reducible refine x_ckw ?_
  | with_reducible refine L2Z.x_methS ?_
  | with_reducible refine L2Z.x_methN ?_
  | with_reducible refine x_callSD ?_
  | with_reducible refine x_lcZ ?_
  | walk_at "g")
local macro_rules | `(tactic| walk_at "go") => `(tactic| repeat' walk_at "g2")

section
variable {P : Program} {w : World} {K : PySem.W.Frag} {mg : Str → Option Value} {base : Heap}
/-! ### == of blocks, of areas -/
theorem sc_Block___eq__ : FnScope ["self", "other", "here"] ["self", "other"] (defScope s_Block___eq__) := ⟨rfl, rfl, rfl, by decide +kernel, rfl, by decide +kernel, by decide +kernel⟩
theorem ok_Block___eq__ (T : TX K mg) : FnOk P w K mg base CX0 1 (f_Block___eq__ K) (fdO K (f_Block___eq__ K)) ["self", "other"] (spEq (RB K)) := by
  refine (F_Block___eq__ T).ok sc_Block___eq__ (fun vs H Q E h => ?_) (fun cdv A outer s H vs Q E hr h => ?_)
  · obtain ⟨_, _, rfl, _⟩ := h; rfl
  · obtain ⟨a, b, rfl, ⟨x, dx, dy, h1, h2⟩, k⟩ := h
    refine ⟨_, PSs.nox (pss_cons (ps_if (pt_not (pt_val (pe_callB (isiK (K := K) (by rfl)) (by rfl) (z_isinstance T) PyProof.Rows.boot_isinstance (pa_cons (pv 1) (pa_cons (pe_glob (v := .ref (He.ga K "Block")) (by rfl) (g_Block T) rfl) pa_nil))))) (pss_one (ps_ret pe_bl)) pss_nil)
      (pss_cons (ps_set (i := 2) sc_Block___eq__.nd rfl (by first | exact Or.inl rfl | exact Or.inr rfl) (pe_tup (pa_cons (fldK (K := K) (pv 0) (by rfl) (by rfl)) (pa_cons (fldK (K := K) (pv 0) (by rfl) (by rfl)) (pa_cons (fldK (K := K) (pv 0) (by rfl) (by rfl)) (pa_cons (fldK (K := K) (pv 0) (by rfl) (by rfl)) pa_nil))))))
      (pss_one (ps_ret (pe_cmpR (op_eqD hr.units) (pv 2) (pe_tup (pa_cons (fldK (K := K) (pv 1) (by rfl) (by rfl)) (pa_cons (fldK (K := K) (pv 1) (by rfl) (by rfl)) (pa_cons (fldK (K := K) (pv 1) (by rfl) (by rfl)) (pa_cons (fldK (K := K) (pv 1) (by rfl) (by rfl)) pa_nil))))) (nomark _)))))), ?_⟩
    walk_at "go"
    refine isiG (.own _) (t_Block T h2) (i_Block_Block T) ?_
    walk_at "go"
    refine fldG h1 (k_Block T) (n_Block_top T) (blkF_top x) ?_
    walk_at "go"
    refine fldG h1 (k_Block T) (n_Block_left T) (blkF_left x) ?_
    walk_at "go"
    refine fldG h1 (k_Block T) (n_Block_bottom T) (blkF_bottom x) ?_
    walk_at "go"
    refine fldG h1 (k_Block T) (n_Block_right T) (blkF_right x) ?_
    walk_at "go"
    refine tupI (Ex.refl H) (by show 4 ≤ 1000; decide) fun t1 G1 H1 s1 g1 => ?_
    walk_at "go"
    have h3 := s1.i _ _ (s1.g _ _ h2)
    refine fldG h3 (k_Block T) (n_Block_top T) (blkF_top x) ?_
    walk_at "go"
    refine fldG h3 (k_Block T) (n_Block_left T) (blkF_left x) ?_
    walk_at "go"
    refine fldG h3 (k_Block T) (n_Block_bottom T) (blkF_bottom x) ?_
    walk_at "go"
    refine fldG h3 (k_Block T) (n_Block_right T) (blkF_right x) ?_
    walk_at "go"
    refine tupI s1.i (by show 4 ≤ 1000; decide) fun t2 G2 H2 s2 g2 => ?_
    have s := s1.trans s2
    refine ⟨_, _, dp_quad (b := x) (s2.i _ _ (s2.g _ _ g1)), dp_quad (b := x) (s2.i _ _ g2), shaped_of (quad_can x) (by rw [quad_depth]; decide), shaped_of (quad_can x) (by rw [quad_depth]; decide), ?_⟩
    rw [SeqAt.eqv_refl _ (quad_can x)]
    exact k H2 (s.g.trans s.i)
theorem sc_Area___eq__ : FnScope ["self", "other"] ["self", "other"] (defScope s_Area___eq__) := ⟨rfl, rfl, rfl, by decide +kernel, rfl, by decide +kernel, by decide +kernel⟩
theorem ok_Area___eq__ (T : TX K mg) : FnOk P w K mg base CX0 3 (f_Area___eq__ K) (fdO K (f_Area___eq__ K)) ["self", "other"] (spEq (RA K)) := by
  refine (F_Area___eq__ T).ok sc_Area___eq__ (fun vs H Q E h => ?_) (fun cdv A outer s H vs Q E hr h => ?_)
  · obtain ⟨_, _, rfl, _⟩ := h; rfl
  · obtain ⟨a, b, rfl, ⟨xs, dx, dy, p, q, us, vs, h1, h2, h3, h4, h5, h6⟩, k⟩ := h
    refine ⟨_, PSs.nox (pss_one (ps_ret (pe_and (pe_callB (isiK (K := K) (by rfl)) (by rfl) (z_isinstance T) PyProof.Rows.boot_isinstance (pa_cons (pv 1) (pa_cons (pe_glob (v := .ref (He.ga K "Area")) (by rfl) (g_Area T) rfl) pa_nil))) (pe_one (pe_cmpR (op_eqG (rcG_list (mon_ins RB.mon) (eqG_ins (ok_Block___eq__ T) (m_Block___eq__ T).at_ (m_Block___eq__ T).fn (b_Block___eq__ T) pass0)) (hr.mono (by decide))) (fldK (K := K) (pv 0) (by rfl) (by rfl)) (fldK (K := K) (pv 1) (by rfl) (by rfl)) (nomark _)))))), ?_⟩
    walk_at "go"
    refine isiG (.own _) (t_Area T h2) (i_Area_Area T) ?_
    walk_at "go"
    refine fldG h1 (k_Area T) (n_Area_form T) (arF_form p) ?_
    walk_at "go"
    refine fldG h2 (k_Area T) (n_Area_form T) (arF_form q) ?_
    walk_at "go"
    exact ⟨⟨p, q, us, vs, rfl, rfl, h3, h4, blk_prs h5 h6⟩, k⟩
end
end GT

/-! ## GMine -/
set_option Elab.async false
set_option linter.all false
set_option maxRecDepth 100000
namespace G
open PySem PySem.Spec PyProof.Rows L2
/-! ### a law's own book of a sheet -/
abbrev IsFill : Rp Fill := fun G v d => ∃ t w, v = .ref t ∧ G t = some (.tup [.str (Str.ofString "fill"), w, .str d.2]) ∧ IsL IsTB G w d.1
theorem IsFill.mono : Mono IsFill := fun G G' _ _ e ⟨t, w, h1, h2, h3⟩ => ⟨t, w, h1, e _ _ h2, IsL.mono IsTB.mono G G' _ _ e h3⟩
structure Mine where
  ds : List Fill
  R : List Int
  C : List Int
def mineK (d r c : V) : List (Key × V) := [(Sum.inr (Str.ofString "deeds"), d), (Sum.inr (Str.ofString "rows"), r), (Sum.inr (Str.ofString "columns"), c)]
theorem mine_deeds (d r c : V) : valV (mineK d r c) (Sum.inr (Str.ofString "deeds")) = some d := by
  unfold mineK valV
  rw [List.find?_cons, decide_eq_true rfl]; rfl
theorem mine_rows (d r c : V) : valV (mineK d r c) (Sum.inr (Str.ofString "rows")) = some r := by
  unfold mineK valV
  rw [List.find?_cons, decide_eq_false (fun q => absurd (Sum.inr.inj q) (by decide +kernel)), List.find?_cons, decide_eq_true rfl]; rfl
theorem mine_cols (d r c : V) : valV (mineK d r c) (Sum.inr (Str.ofString "columns")) = some c := by
  unfold mineK valV
  rw [List.find?_cons, decide_eq_false (fun q => absurd (Sum.inr.inj q) (by decide +kernel)), List.find?_cons, decide_eq_false (fun q => absurd (Sum.inr.inj q) (by decide +kernel)), List.find?_cons, decide_eq_true rfl]; rfl
theorem mine_merge (d r c : V) : mergeK [] (mineK d r c) = mineK d r c := by
  have k1 : ¬ (Sum.inr (Str.ofString "deeds") : Key) = Sum.inr (Str.ofString "rows") := fun q => absurd (Sum.inr.inj q) (by decide +kernel)
  have k2 : ¬ (Sum.inr (Str.ofString "deeds") : Key) = Sum.inr (Str.ofString "columns") := fun q => absurd (Sum.inr.inj q) (by decide +kernel)
  have k3 : ¬ (Sum.inr (Str.ofString "rows") : Key) = Sum.inr (Str.ofString "columns") := fun q => absurd (Sum.inr.inj q) (by decide +kernel)
  unfold mineK mergeK
  simp [putK, k1, k2, k3]
structure MineAt (G : Hp) (p : Addr) (d r c : V) (m : Mine) : Prop where
  o : G p = some (.dK (mineK d r c))
  ds : IsL IsFill G d m.ds
  R : IsL IsI G r m.R
  C : IsL IsI G c m.C
def IsMine : Rp Mine := fun G v m => ∃ p d r c, v = .ref p ∧ MineAt G p d r c m
theorem MineAt.mono {G G' : Hp} {p : Addr} {d r c : V} {m : Mine} (h : MineAt G p d r c m) (e : Ex G G') : MineAt G' p d r c m := ⟨e _ _ h.o, IsL.mono IsFill.mono _ _ _ _ e h.ds, IsL.mono IsI.mono _ _ _ _ e h.R, IsL.mono IsI.mono _ _ _ _ e h.C⟩
theorem IsMine.mono : Mono IsMine := fun _ _ _ _ e ⟨p, d, r, c, h, m⟩ => ⟨p, d, r, c, h, m.mono e⟩
def lfill (m : Mine) (bs : List Blk) (z : Str) : Mine := ⟨m.ds ++ [(bs, z)], sd (m.R ++ rowCuts bs), sd (m.C ++ colCuts bs)⟩
def mine0 : Mine := ⟨[], [1], [1]⟩
section
variable {K : PySem.W.Frag} {G H : Hp} {Q : VK}
theorem ixQ {v : V} {b : Blk} {i : Int} {j : Nat} {x : V} (hx : IsTB G v b) (e : Ex G H) (hj : [V.int b.t, .int b.l, optV b.b, optV b.r][j]? = some x) (hi : i = (j : Nat)) (h : Q x H) : rIxT K v (.int i) H Q := by
  obtain ⟨t, rfl, ht⟩ := hx
  subst hi
  exact ⟨t, _, _, x, rfl, rfl, sqt (e _ _ ht), atI_nat hj, h⟩
theorem ixFl {v : V} {d : Fill} {i : Int} {j : Nat} {P : V → Prop} (hx : IsFill G v d) (e : Ex G H) (hi : i = (j : Nat)) (hj : j < 3) (h : ∀ w x, IsL IsTB G w d.1 → [V.str (Str.ofString "fill"), w, .str d.2][j]? = some x → Q x H) : rIxT K v (.int i) H Q := by
  obtain ⟨t, w, rfl, ht, hw⟩ := hx
  subst hi
  obtain ⟨x, hx⟩ : ∃ x, [V.str (Str.ofString "fill"), w, .str d.2][j]? = some x := ⟨_, List.getElem?_eq_getElem (by simpa using hj)⟩
  exact ⟨t, _, _, x, rfl, rfl, sqt (e _ _ ht), atI_nat hx, h w x hw hx⟩
/-- True in [..] -/
theorem inTrue {v : V} {bs : List Bool} (hx : IsL IsB G v bs) (e : Ex G H) (h : Q (.bl (bs.any id)) H) : rIn K false (.bl true) v H Q := by
  obtain ⟨p, ws, rfl, hp, hr⟩ := hx
  have ew : ws = bs.map V.bl := by
    clear hp h
    induction hr with
    | nil => rfl
    | cons r t ih => rw [r, ih]; rfl
  subst ew
  refine ⟨p, _, rfl, .inl (sq (e _ _ hp)), rfl, ?_, ?_⟩
  · rw [List.all_map]
    exact List.all_eq_true.mpr fun b _ => rfl
  · have : inV (.bl true) (bs.map V.bl) = bs.any id := by
      unfold inV
      rw [List.any_map]
      congr 1
      funext b
      cases b <;> rfl
    rw [if_neg (by decide), this]
    exact h
/-- the display of such a book -/
theorem mineDisp {p : Addr} {d r c : V} (m : Mu G H p (.dK [])) (e : Ex G H) (h : ∀ G1 H1, Stm [p] G H G1 H1 → G1 p = some (.dK (mineK d r c)) → Q (.ref p) H1) :
    H p = some (.dK []) ∧ ∃ kvs : List (Key × V), [(V.str (Str.ofString "deeds"), d), (V.str (Str.ofString "rows"), r), (V.str (Str.ofString "columns"), c)] = kvs.map (fun kv => (kV kv.1, kv.2)) ∧ kvs.length ≤ 15 ∧ Q (.ref p) (upd H p (.dK (mergeK [] kvs))) := by
  refine ⟨m.1, mineK d r c, rfl, by show 3 ≤ 15; decide, ?_⟩
  rw [mine_merge]
  obtain ⟨s1, m1⟩ := chgF (o' := .dK (mineK d r c)) m e
  obtain ⟨s2, g2⟩ := freeze m1 s1.i
  exact h _ _ (s1.trans s2) g2
end
theorem pi_listK {X : Cx} {K : PySem.W.Frag} (hK : X.K = K) {tg l : Expr} {tl : TE} (hl : PE X l tl) : PI X tg l (iList K tl) := by subst hK; exact pi_list hl
theorem row_ends : ∀ xs : List Blk, ((xs.filter fun x => x.b.isSome).map fun x => x.b.getD 0 + 1) = (xs.map fun b => (b.t, b.b)).filterMap fun e => e.2.map (· + 1)
  | [] => rfl
  | ⟨a, l, none, r⟩ :: xs => by simpa using row_ends xs
  | ⟨a, l, some b, r⟩ :: xs => by simpa using row_ends xs
theorem col_ends : ∀ xs : List Blk, ((xs.filter fun x => x.r.isSome).map fun x => x.r.getD 0 + 1) = (xs.map fun b => (b.l, b.r)).filterMap fun e => e.2.map (· + 1)
  | [] => rfl
  | ⟨a, l, b, none⟩ :: xs => by simpa using col_ends xs
  | ⟨a, l, b, some r⟩ :: xs => by simpa using col_ends xs
end G

/-! ## LA -/
set_option Elab.async false
set_option linter.all false
set_option maxRecDepth 100000
set_option maxHeartbeats 400000
namespace GT
open PySem PySem.Spec PyProof.Rows L2 G
local macro_rules | `(tactic| walk_at "ex") => `(tactic| first | exact Ex.refl _ | assumption | exact Stm.g (by assumption) | (refine Ex.trans ?_ (Stm.g (by assumption)); walk_at "ex"))
local macro_rules | `(tactic| walk_at "st") => `(tactic| first | exact Stm.refl (by assumption) | assumption | (refine Stm.trans ?_ (by assumption); walk_at "st"))
local macro_rules | `(tactic| walk_at "i") => `(tactic| first | assumption | exact Stm.i (by assumption))
local macro_rules | `(tactic| walk_at "fact") => `(tactic| first | rfl | exact (rfl : V.non = optV none) | exact (rfl : V.int _ = optV (some _)) | assumption)
local macro_rules | `(tactic| walk_at "g") => `(tactic| first
  | with_reducible refine x_seq ?_
  | with_reducible refine x_next ?_
  | with_reducible refine x_asg ?_
  | with_reducible refine x_ret ?_
  | with_reducible refine x_retN ?_
  | with_reducible refine x_drop ?_
  | with_reducible refine x_ifs ?_
  | ((with_reducible refine' x_var ?hv ?_); (case hv => exact rfl))
  | with_reducible refine x_c ?_
  | with_reducible refine x_op ?_
  | with_reducible refine x_un ?_
  | with_reducible refine x_test ?_
  | with_reducible refine x_B ?_
  | with_reducible refine x_bl ?_
  | with_reducible refine x_and ?_
  | with_reducible refine x_or ?_
  | with_reducible refine x_not ?_
  | with_reducible refine x_andV ?_
  | with_reducible refine x_orV ?_
  | with_reducible refine x_notV ?_
  | with_reducible refine x_ife ?_
  | with_reducible refine x_isN ?_
  | with_reducible refine x_notN ?_
  | with_reducible refine x_nil ?_
  | with_reducible refine x_cons ?_
  | with_reducible refine x_cb ?_
  | with_reducible refine x_call ?_
  | ((with_reducible refine' x_callL ?hv ?_); (case hv => exact rfl))
  | ((with_reducible refine' x_gnameN ?hv ?_); (case hv => (simp only [L2.start, List.map_cons, List.map_nil, List.length_cons, List.length_nil, List.replicate_succ, List.replicate_zero, List.cons_append, List.nil_append, List.set_cons_zero, List.set_cons_succ, Nat.reduceAdd, Nat.reduceSub, Nat.add_one_sub_one]; exact rfl)))
  | with_reducible refine x_gname ?_
  | with_reducible refine x_I0 ?_
  | ((with_reducible refine' x_eq ?hv ?_); (case hv => exact rfl))
  | ((with_reducible refine' x_ne ?hv ?_); (case hv => exact rfl))
  | with_reducible refine x_tupG ?_
  | with_reducible refine x_lstG ?_
  | with_reducible refine x_lc ?_
  | (with_reducible refine x_U ?_)
  | ((with_reducible refine' ite_T ?hv ?_); (case hv => exact rfl))
  | ((with_reducible refine' ite_F ?hv ?_); (case hv => exact rfl))
  | with_reducible refine x_for ?_
  | with_reducible refine x_iEnum ?_
  | with_reducible refine x_iRng1 ?_
  | with_reducible refine x_iList ?_
  | with_reducible refine x_iTup ?_
  | with_reducible refine x_gcons ?_
  | with_reducible refine x_gnil ?_
  | with_reducible refine x_bm ?_
  | with_reducible refine x_fldG ?_
  | with_reducible refine x_meth ?_
  | with_reducible refine x_sl ?_
  | with_reducible refine x_nopart ?_
  | with_reducible refine x_part ?_
  | with_reducible refine x_int ?_
  | with_reducible refine x_yes ?_
  | with_reducible refine x_isNG ?_
  | with_reducible refine x_notNG ?_
  | fail "no step")
local macro_rules | `(tactic| walk_at "g2") => `(tactic| first
  | with_reducible refine x_sfld ?_
  | with_reducible refine x_make ?_
  | with_reducible refine x_dnew ?_
  | with_reducible refine x_lcT ?_
  | with_reducible refine x_lcS ?_
  | with_reducible refine x_disp ?_
  | with_reducible refine x_pcons ?_
  | with_reducible refine x_pnil ?_
  | with_reducible refine x_dnewK ?_
  | with_reducible refine x_dput ?_
  | with_reducible refine x_gsub ?_
  | with_reducible refine x_dget2 ?_
  | with_reducible refine x_litems ?_
  | with_reducible refine x_bmX ?_
  | with_reducible refine x_ckw ?_
  | with_reducible refine L2Z.x_methS ?_
  | with_reducible refine L2Z.x_methN ?_
  | with_reducible refine x_callSD ?_
  | with_reducible refine x_lcZ ?_
  | with_reducible refine x_iZip ?_
  | with_reducible refine x_dget ?_
  | with_reducible refine x_revL ?_
  | walk_at "g")
local macro_rules | `(tactic| walk_at "go") => `(tactic| repeat' walk_at "g2")

section
variable {P : Program} {w : World} {K : PySem.W.Frag} {mg : Str → Option Value} {base : Heap}
def sp_law_draw (K : PySem.W.Frag) : Sp := fun vs H Q _ => ∃ G p c n, vs = [.ref p, .int n] ∧ Ex G H ∧ MuW G H p c ∧ 0 ≤ c ∧ c < 1000000 ∧ 0 < n ∧ n < 1073741824 ∧
  ∀ H1 i c', 0 ≤ i → i < n → c ≤ c' → c' ≤ c + 1 → Stm [p] G H G H1 → MuW G H1 p c' → Q (.int i) H1
theorem sc__law_draw : FnScope ["_law_well_here", "_law_many", "_law_found", "_law_number"] ["_law_well_here", "_law_many"] (defScope s__law_draw) := ⟨rfl, rfl, rfl, by decide +kernel, rfl, by decide +kernel, by decide +kernel⟩
theorem ok__law_draw (T : TX K mg) : FnOk P w K mg base CX0 1 (f__law_draw K) (fdO K (f__law_draw K)) ["_law_well_here", "_law_many"] (sp_law_draw K) := by
  refine (F__law_draw T).ok sc__law_draw (fun vs H Q E h => ?_) (fun cdv A outer s H vs Q E hr h => ?_)
  · obtain ⟨_, _, _, _, rfl, _⟩ := h; rfl
  · obtain ⟨G0, p, c, n, rfl, e, ⟨a, b, m, b0, b1⟩, c0, c1, n0, n1, k⟩ := h
    refine ⟨_, PSs.nox (pss_cons (ps_if (pt_cmpR op_gt (pe_ix (ixLK (K := K) (by rfl)) (pv 0) pe_int (fun _ _ => rfl)) pe_int (nomark _)) (pss_cons (ps_set (i := 2) sc__law_draw.nd rfl (by first | exact Or.inl rfl | exact Or.inr rfl) (pe_op op_mod (pe_ix (ixLK (K := K) (by rfl)) (pv 0) pe_int (fun _ _ => rfl)) (pv 1)))
      (pss_cons (ps_asg (pe_op op_fdiv (pe_ix (ixLK (K := K) (by rfl)) (pv 0) pe_int (fun _ _ => rfl)) (pv 1)) (pg_sub (pv 0) pe_int set_list))
      (pss_one (ps_ret (pv 2))))) pss_nil)
      (pss_cons (ps_asg (pe_op op_add (pe_ix (ixLK (K := K) (by rfl)) (pv 0) pe_int (fun _ _ => rfl)) pe_int) (pg_sub (pv 0) pe_int set_list))
      (pss_cons (ps_set (i := 3) sc__law_draw.nd rfl (by first | exact Or.inl rfl | exact Or.inr rfl) (pe_op op_mod (pe_op op_pow (pe_op op_add (pe_op op_add (pe_ix (ixLK (K := K) (by rfl)) (pv 0) pe_int (fun _ _ => rfl)) (pe_op op_mul pe_int (pe_ix (ixLK (K := K) (by rfl)) (pv 0) pe_int (fun _ _ => rfl)))) pe_int) pe_int) pe_int))
      (pss_cons (ps_set (i := 3) sc__law_draw.nd rfl (by first | exact Or.inl rfl | exact Or.inr rfl) (pe_op op_mod (pe_op op_mul (pv 3) (pe_op op_add (pe_op op_fdiv (pv 3) pe_int) pe_int)) pe_int))
      (pss_one (ps_ret (pe_op op_mod (pe_op op_mod (pe_op op_mul (pv 3) (pe_op op_add (pe_op op_fdiv (pv 3) pe_int) pe_int)) pe_int) (pv 1)))))))), ?_⟩
    walk_at "go"
    refine ixW m.1 rfl ?_
    walk_at "go"
    refine ite_b2 (fun h1 => ?_) (fun h1 => ?_)
    · walk_at "go"
      refine ixW m.1 rfl ?_
      walk_at "go"
      refine x_I n0 ?_
      walk_at "go"
      refine ixW m.1 rfl ?_
      walk_at "go"
      refine x_I ⟨n0, n1⟩ ?_
      walk_at "go"
      refine setW m e rfl fun H1 s1 m1 => ?_
      walk_at "go"
      exact k _ _ c (Int.emod_nonneg _ (by omega)) (Int.emod_lt_of_pos _ n0) (Int.le_refl _) (by omega) s1 ⟨_, _, m1, b0, b1⟩
    · walk_at "go"
      refine ixW m.1 rfl ?_
      walk_at "go"
      refine setW m e rfl fun H1 s1 m1 => ?_
      have m1 : Mu G0 H1 p (.lst [.int a, .int b, .int (c + 1)]) := m1
      walk_at "go"
      refine ixW m1.1 rfl ?_
      walk_at "go"
      refine ixW m1.1 rfl ?_
      walk_at "go"
      refine x_I (.inl ⟨by decide, by decide⟩) ?_
      walk_at "go"
      refine x_I ⟨by decide, by decide, ?_⟩ ?_
      · have : (2 : Nat) ^ 64 = 18446744073709551616 := by decide
        omega
      walk_at "go"
      refine x_I (by decide) ?_
      generalize hq : (b + 7919 * (c + 1) + 1) ^ (3 : Int).toNat % 2147483647 = q
      have q0 : 0 ≤ q := by rw [← hq]; exact Int.emod_nonneg _ (by decide)
      have q1 : q < 2147483647 := by rw [← hq]; exact Int.emod_lt_of_pos _ (by decide)
      have big : (2 : Int) ^ 64 = 18446744073709551616 := by decide
      walk_at "go"
      refine x_I ⟨by decide, by decide⟩ ?_
      walk_at "go"
      refine x_I (.inl ⟨by omega, by omega⟩) ?_
      walk_at "go"
      refine x_I (by decide) ?_
      generalize hr2 : q * (q / 1009 + 69621) % 2147483629 = r2
      have r0 : 0 ≤ r2 := by rw [← hr2]; exact Int.emod_nonneg _ (by decide)
      have r1 : r2 < 2147483629 := by rw [← hr2]; exact Int.emod_lt_of_pos _ (by decide)
      walk_at "go"
      refine x_I ⟨by decide, by decide⟩ ?_
      walk_at "go"
      refine x_I (.inl ⟨by omega, by omega⟩) ?_
      walk_at "go"
      refine x_I (by decide) ?_
      walk_at "go"
      refine x_I n0 ?_
      exact k _ _ (c + 1) (Int.emod_nonneg _ (by omega)) (Int.emod_lt_of_pos _ n0) (by omega) (Int.le_refl _) s1 ⟨_, _, m1, b0, b1⟩
def sp_law_well (K : PySem.W.Frag) : Sp := fun vs H Q _ => ∃ G n, vs = [.int n] ∧ Ex G H ∧ ∀ H1 p, H p = none → St G H G H1 → MuW G H1 p 0 → Q (.ref p) H1
theorem sc__law_well : FnScope ["_law_cell"] ["_law_cell"] (defScope s__law_well) := ⟨rfl, rfl, rfl, by decide +kernel, rfl, by decide +kernel, by decide +kernel⟩
theorem ok__law_well (T : TX K mg) : FnOk P w K mg base CX0 1 (f__law_well K) (fdO K (f__law_well K)) ["_law_cell"] (sp_law_well K) := by
  refine (F__law_well T).ok sc__law_well (fun vs H Q E h => ?_) (fun cdv A outer s H vs Q E hr h => ?_)
  · obtain ⟨_, _, rfl, _⟩ := h; rfl
  · obtain ⟨G0, n, rfl, e, k⟩ := h
    refine ⟨_, PSs.nox (pss_one (ps_ret (pe_lst (pa_cons (pe_op op_mul (pv 0) (pe_callTy int1K (by rfl) (z_int T) (by decide +kernel) (pa_cons (pe_cmpR op_ge (pv 0) (pe_op op_pow pe_int pe_int) (nomark _)) pa_nil))) (pa_cons (pe_op op_mod (pv 0) pe_int) (pa_cons pe_int pa_nil)))))), ?_⟩
    walk_at "go"
    refine x_I ⟨by decide, by decide, by decide⟩ ?_
    walk_at "go"
    refine .inr ⟨_, rfl, ?_⟩
    refine x_I (.inr ?_) ?_
    · split <;> decide
    walk_at "go"
    refine x_I (by decide) ?_
    walk_at "go"
    exact lstM e (by show 3 ≤ 1000; decide) fun p H1 hp s1 m1 => k H1 p hp s1 ⟨_, _, m1, Int.emod_nonneg _ (by decide), Int.emod_lt_of_pos _ (by decide)⟩
def sp_law_cell_at (K : PySem.W.Frag) : Sp := fun vs H Q _ => ∃ a ns, vs = [.ref a, .int 0] ∧ SqL K H a (List.map V.int ns) ∧ ∀ n, Q (.int n) H
theorem sc__law_cell_at : FnScope ["_law_script", "_law_k"] ["_law_script", "_law_k"] (defScope s__law_cell_at) := ⟨rfl, rfl, rfl, by decide +kernel, rfl, by decide +kernel, by decide +kernel⟩
theorem ok__law_cell_at (T : TX K mg) : FnOk P w K mg base CX0 1 (f__law_cell_at K) (fdO K (f__law_cell_at K)) ["_law_script", "_law_k"] (sp_law_cell_at K) := by
  refine (F__law_cell_at T).ok sc__law_cell_at (fun vs H Q E h => ?_) (fun cdv A outer s H vs Q E hr h => ?_)
  · obtain ⟨_, _, rfl, _⟩ := h; rfl
  · obtain ⟨a, ns, rfl, hS, k⟩ := h
    refine ⟨_, PSs.nox (pss_cons (ps_if (pt_cmpR op_lt (pv 1) (pe_callB (lenK (K := K) (by rfl)) (by rfl) (z_len T) PySem.boot_len (pa_cons (pv 0) pa_nil)) (nomark _)) (pss_one (ps_ret (pe_ix (ixLK (K := K) (by rfl)) (pv 0) (pv 1) (fun _ _ => rfl)))) pss_nil)
      (pss_one (ps_ret pe_int))), ?_⟩
    walk_at "go"
    refine ⟨a, _, rfl, .inl hS, ?_⟩
    walk_at "go"
    refine ite_b2 (fun c => ?_) (fun c => ?_)
    · walk_at "go"
      have h0 := of_decide_eq_true c
      rw [List.length_map] at h0
      refine ⟨a, _, 0, .int ns[0], rfl, rfl, hS, ?_, k _⟩
      exact atI_nat (j := 0) (by rw [List.getElem?_map, List.getElem?_eq_getElem (by omega)]; rfl)
    · walk_at "go"
      exact k 0
end
end GT

/-! ## LB -/
set_option Elab.async false
set_option linter.all false
set_option maxRecDepth 100000
set_option maxHeartbeats 400000
namespace GT
open PySem PySem.Spec PyProof.Rows L2 G
local macro_rules | `(tactic| walk_at "ex") => `(tactic| first | exact Ex.refl _ | assumption | exact Stm.g (by assumption) | (refine Ex.trans ?_ (Stm.g (by assumption)); walk_at "ex"))
local macro_rules | `(tactic| walk_at "st") => `(tactic| first | exact Stm.refl (by assumption) | assumption | (refine Stm.trans ?_ (by assumption); walk_at "st"))
local macro_rules | `(tactic| walk_at "i") => `(tactic| first | assumption | exact Stm.i (by assumption))
local macro_rules | `(tactic| walk_at "fact") => `(tactic| first | rfl | exact (rfl : V.non = optV none) | exact (rfl : V.int _ = optV (some _)) | assumption)
local macro_rules | `(tactic| walk_at "g") => `(tactic| first
  | with_reducible refine x_seq ?_
  | with_reducible refine x_next ?_
  | with_reducible refine x_asg ?_
  | with_reducible refine x_ret ?_
  | with_reducible refine x_retN ?_
  | with_reducible refine x_drop ?_
  | with_reducible refine x_ifs ?_
  | ((with_reducible refine' x_var ?hv ?_); (case hv => exact rfl))
  | with_reducible refine x_c ?_
  | with_reducible refine x_op ?_
  | with_reducible refine x_un ?_
  | with_reducible refine x_test ?_
  | with_reducible refine x_B ?_
  | with_reducible refine x_bl ?_
  | with_reducible refine x_and ?_
  | with_reducible refine x_or ?_
  | with_reducible refine x_not ?_
  | with_reducible refine x_andV ?_
  | with_reducible refine x_orV ?_
  | with_reducible refine x_notV ?_
  | with_reducible refine x_ife ?_
  | with_reducible refine x_isN ?_
  | with_reducible refine x_notN ?_
  | with_reducible refine x_nil ?_
  | with_reducible refine x_cons ?_
  | with_reducible refine x_cb ?_
  | with_reducible refine x_call ?_
  | ((with_reducible refine' x_callL ?hv ?_); (case hv => exact rfl))
  | ((with_reducible refine' x_gnameN ?hv ?_); (case hv => (simp only [L2.start, List.map_cons, List.map_nil, List.length_cons, List.length_nil, List.replicate_succ, List.replicate_zero, List.cons_append, List.nil_append, List.set_cons_zero, List.set_cons_succ, Nat.reduceAdd, Nat.reduceSub, Nat.add_one_sub_one]; exact rfl)))
  | with_reducible refine x_gname ?_
  | with_reducible refine x_I0 ?_
  | ((with_reducible refine' x_eq ?hv ?_); (case hv => exact rfl))
  | ((with_reducible refine' x_ne ?hv ?_); (case hv => exact rfl))
  | with_reducible refine x_tupG ?_
  | with_reducible refine x_lstG ?_
  | with_reducible refine x_lc ?_
  | (with_reducible refine x_U ?_)
  | ((with_reducible refine' ite_T ?hv ?_); (case hv => exact rfl))
  | ((with_reducible refine' ite_F ?hv ?_); (case hv => exact rfl))
  | with_reducible refine x_for ?_
  | with_reducible refine x_iEnum ?_
  | with_reducible refine x_iRng1 ?_
  | with_reducible refine x_iList ?_
  | with_reducible refine x_iTup ?_
  | with_reducible refine x_gcons ?_
  | with_reducible refine x_gnil ?_
  | with_reducible refine x_bm ?_
  | with_reducible refine x_fldG ?_
  | with_reducible refine x_meth ?_
  | with_reducible refine x_sl ?_
  | with_reducible refine x_nopart ?_
  | with_reducible refine x_part ?_
  | with_reducible refine x_int ?_
  | with_reducible refine x_yes ?_
  | with_reducible refine x_isNG ?_
  | with_reducible refine x_notNG ?_
  | fail "no step")
local macro_rules | `(tactic| walk_at "g2") => `(tactic| first
  | with_reducible refine x_sfld ?_
  | with_reducible refine x_make ?_
  | with_reducible refine x_dnew ?_
  | with_reducible refine x_lcT ?_
  | with_reducible refine x_lcS ?_
  | with_reducible refine x_disp ?_
  | with_reducible refine x_pcons ?_
  | with_reducible refine x_pnil ?_
  | with_reducible refine x_dnewK ?_
  | with_reducible refine x_dput ?_
  | with_reducible refine x_gsub ?_
  | with_reducible refine x_dget2 ?_
  | with_reducible refine x_litems ?_
  | with_reducible refine x_bmX ?_
  | with_reducible refine x_ckw ?_
  | with_reducible refine L2Z.x_methS ?_
  | with_reducible refine L2Z.x_methN ?_
  | with_reducible refine x_callSD ?_
  | with_reducible refine x_lcZ ?_
  | with_reducible refine x_iZip ?_
  | with_reducible refine x_dget ?_
  | with_reducible refine x_revL ?_
  | walk_at "g")
local macro_rules | `(tactic| walk_at "go") => `(tactic| repeat' walk_at "g2")

section
variable {P : Program} {w : World} {K : PySem.W.Frag} {mg : Str → Option Value} {base : Heap}
def sp_law_new : Sp := fun vs H Q _ => ∃ G, vs = [] ∧ Ex G H ∧ ∀ G1 H1 r, St G H G1 H1 → IsMine G1 r mine0 → Q r H1
theorem sc__law_new : FnScope [] [] (defScope s__law_new) := ⟨rfl, rfl, rfl, by decide +kernel, rfl, by decide +kernel, by decide +kernel⟩
theorem ok__law_new (T : TX K mg) : FnOk P w K mg base CX0 1 (f__law_new K) (fdO K (f__law_new K)) [] sp_law_new := by
  refine (F__law_new T).ok sc__law_new (fun vs H Q E h => ?_) (fun cdv A outer s H vs Q E hr h => ?_)
  · obtain ⟨_, rfl, _⟩ := h; rfl
  · obtain ⟨G0, rfl, e, k⟩ := h
    refine ⟨_, PSs.nox (pss_one (ps_ret (pe_disp (pps_cons pe_str (pe_lst pa_nil) (pps_cons pe_str (pe_lst (pa_cons pe_int pa_nil)) (pps_cons pe_str (pe_lst (pa_cons pe_int pa_nil)) pps_nil))) (by rfl) (by rfl) (fun z => by cases z) (by decide)))), ?_⟩
    walk_at "go"
    refine dispM e fun p H1 hp s1 m1 => ?_
    walk_at "go"
    refine lstI s1.i (Nat.zero_le _) fun pd G2 H2 s2 g2 => ?_
    walk_at "go"
    refine lstI s2.i (by show 1 ≤ 1000; decide) fun pr G3 H3 s3 g3 => ?_
    walk_at "go"
    refine lstI s3.i (by show 1 ≤ 1000; decide) fun pc G4 H4 s4 g4 => ?_
    walk_at "go"
    have m4 := ((s2.trans s3).trans s4).mu m1
    refine mineDisp m4 s4.i fun G5 H5 s5 g5 => ?_
    have st : St G0 H G5 H5 := Stm.fresh (Stm.refl e) ((St.up ((s1.trans ((s2.trans s3).trans s4)))).trans s5) fun a ha => by rw [List.mem_singleton.mp ha]; exact hp
    refine k G5 H5 _ st ⟨p, _, _, _, rfl, g5, ⟨pd, _, rfl, s5.g _ _ (s4.g _ _ (s3.g _ _ g2)), .nil⟩, ⟨pr, _, rfl, s5.g _ _ (s4.g _ _ g3), .cons rfl .nil⟩, ⟨pc, _, rfl, s5.g _ _ g4, .cons rfl .nil⟩⟩
def sp_law_in (K : PySem.W.Frag) : Sp := fun vs H Q _ => ∃ G v u b x, vs = [v, u] ∧ Ex G H ∧ IsTB G v b ∧ IsII G u x ∧ Q (.bl (inB b x.1 x.2)) H
theorem sc__law_in : FnScope ["_law_block_here", "_law_cell", "_law_top", "_law_left", "_law_bottom", "_law_right_here"] ["_law_block_here", "_law_cell"] (defScope s__law_in) := ⟨rfl, rfl, rfl, by decide +kernel, rfl, by decide +kernel, by decide +kernel⟩
theorem ok__law_in (T : TX K mg) : FnOk P w K mg base CX0 1 (f__law_in K) (fdO K (f__law_in K)) ["_law_block_here", "_law_cell"] (sp_law_in K) := by
  refine (F__law_in T).ok sc__law_in (fun vs H Q E h => ?_) (fun cdv A outer s H vs Q E hr h => ?_)
  · obtain ⟨_, _, _, _, _, rfl, _⟩ := h; rfl
  · obtain ⟨G0, v, u, b, ⟨x, c⟩, rfl, e, ⟨tb, rfl, hb⟩, ⟨tc, w1, w2, rfl, hc, e1, e2⟩, q⟩ := h
    have e1 : w1 = .int x := e1
    have e2 : w2 = .int c := e2
    subst e1 e2
    have q : Q (.bl (inB b x c)) H := q
    have hcell : IsII G0 (.ref tc) (x, c) := ⟨tc, _, _, rfl, hc, rfl, rfl⟩
    unfold inB at q
    rw [GT.isAt_eq, GT.isAt_eq] at q
    refine ⟨_, PSs.nox (pss_cons (ps_asg (pv 0) (pg_tup (by rfl) (pgs_cons (pg_name (i := 2) sc__law_in.nd rfl (by first | exact Or.inl rfl | exact Or.inr rfl)) (pgs_cons (pg_name (i := 3) sc__law_in.nd rfl (by first | exact Or.inl rfl | exact Or.inr rfl)) (pgs_cons (pg_name (i := 4) sc__law_in.nd rfl (by first | exact Or.inl rfl | exact Or.inr rfl)) (pgs_cons (pg_name (i := 5) sc__law_in.nd rfl (by first | exact Or.inl rfl | exact Or.inr rfl)) pgs_nil))))))
      (pss_cons (ps_if (PW.pt (pw_or (pt_cmpR op_lt (pe_ix (ixTK (K := K) (by rfl)) (pv 1) pe_int (fun _ _ => rfl)) (pv 2) (nomark _)) (pw_or1 (pt_cmpR op_lt (pe_ix (ixTK (K := K) (by rfl)) (pv 1) pe_int (fun _ _ => rfl)) (pv 3) (nomark _))))) (pss_one (ps_ret pe_bl)) pss_nil)
      (pss_one (ps_ret (pe_and (pe_or (pe_cmpR op_isNG (pv 4) pe_non (nomark _)) (pe_one (pe_cmpR op_le (pe_ix (ixTK (K := K) (by rfl)) (pv 1) pe_int (fun _ _ => rfl)) (pv 4) (nomark _)))) (pe_one (pe_or (pe_cmpR op_isNG (pv 5) pe_non (nomark _)) (pe_one (pe_cmpR op_le (pe_ix (ixTK (K := K) (by rfl)) (pv 1) pe_int (fun _ _ => rfl)) (pv 5) (nomark _)))))))))), ?_⟩
    walk_at "go"
    refine x_gtup (e _ _ hb) rfl ?_
    walk_at "go"
    refine x_ixT0 hcell e fun w3 hw3 => ?_
    cases hw3
    walk_at "go"
    refine ite_b2 (fun c1 => ?_) (fun c1 => ?_)
    · have c1 := of_decide_eq_true c1
      rw [decide_eq_false (show ¬ b.t ≤ x by omega)] at q
      walk_at "go"
      exact q
    · have c1 := of_decide_eq_false c1
      rw [decide_eq_true (show b.t ≤ x by omega)] at q
      walk_at "go"
      refine x_ixT1 hcell e fun w4 hw4 => ?_
      cases hw4
      walk_at "go"
      refine ite_b2 (fun c2 => ?_) (fun c2 => ?_)
      · have c2 := of_decide_eq_true c2
        rw [decide_eq_false (show ¬ b.l ≤ c by omega)] at q
        walk_at "go"
        simpa using q
      · have c2 := of_decide_eq_false c2
        rw [decide_eq_true (show b.l ≤ c by omega)] at q
        rw [Bool.true_and, Bool.true_and] at q
        have last : ∀ k1 : Bool, endLe x b.b = k1 → k1 = true → tOrV (tOp G.rIsN (tVar 5) (tC V.non)) (tOp (rI0 fun i j => V.bl (decide (i ≤ j))) (tOp (rIxT K) (tVar 1) (tC (V.int 1))) (tVar 5)) [some (.ref tb), some (.ref tc), some (.int b.t), some (.int b.l), some (optV b.b), some (optV b.r)] H Q := by
          intro k1 ek e1
          rw [ek, e1, Bool.true_and] at q
          cases hr1 : b.r with
          | none =>
            rw [hr1] at q
            walk_at "go"
            exact q
          | some z =>
            rw [hr1] at q
            walk_at "go"
            refine x_ixT1 hcell e fun w4 hw4 => ?_
            cases hw4
            walk_at "go"
            exact q
        cases hb1 : b.b with
        | none =>
          rw [hb1] at q
          cases hr1 : b.r with
          | none =>
            rw [hr1] at q
            walk_at "go"
            exact q
          | some z =>
            rw [hr1] at q
            walk_at "go"
            refine x_ixT1 hcell e fun w4 hw4 => ?_
            cases hw4
            walk_at "go"
            exact q
        | some z =>
          rw [hb1] at last q
          walk_at "go"
          refine x_ixT0 hcell e fun w4 hw4 => ?_
          cases hw4
          walk_at "go"
          refine ite_b2 (fun c3 => ?_) (fun c3 => ?_)
          · exact last _ rfl c3
          · have q : Q (.bl (decide (x ≤ z) && endLe c b.r)) H := q
            have c3 : decide (x ≤ z) = false := c3
            rw [c3] at q
            exact q
def sp_law_value (K : PySem.W.Frag) : Sp := fun vs H Q _ => ∃ G v u ds x, vs = [v, u] ∧ Ex G H ∧ IsL IsFill G v ds ∧ (∀ d ∈ ds, d.1.length ≤ 1000) ∧ IsII G u x ∧ ∀ G1 H1, St G H G1 H1 → Q (.str (valF ds x.1 x.2)) H1
theorem sc__law_value : FnScope ["_law_deeds", "_law_cell", "_law_deed", "_law_found", "_law_block_here"] ["_law_deeds", "_law_cell"] (defScope s__law_value) := ⟨rfl, rfl, rfl, by decide +kernel, rfl, by decide +kernel, by decide +kernel⟩
theorem ok__law_value (T : TX K mg) : FnOk P w K mg base CX0 3 (f__law_value K) (fdO K (f__law_value K)) ["_law_deeds", "_law_cell"] (sp_law_value K) := by
  refine (F__law_value T).ok sc__law_value (fun vs H Q E h => ?_) (fun cdv A outer s H vs Q E hr h => ?_)
  · obtain ⟨_, _, _, _, _, rfl, _⟩ := h; rfl
  · obtain ⟨G0, v, u, ds, x, rfl, e, hds, hz, hx, q⟩ := h
    refine ⟨_, PSs.nox (pss_cons (ps_for PassesOwn.never rfl (pi_list (pe_revL (pv 0))) (pg_name (i := 2) sc__law_value.nd rfl (by first | exact Or.inl rfl | exact Or.inr rfl)) (pss_cons (ps_if (PW.pt (pw_and (pt_cmpR op_eq (pe_ix (ixTK (K := K) (by rfl)) (pv 2) pe_int (fun _ _ => rfl)) pe_str (nomark _)) (pw_and1 (pt_cmpR op_in_seq pe_bl (pe_lc (own := [("_law_block_here", 4)]) (g := gName 4) (by rfl) sc__law_value.nd (pi_list (pe_ix (ixTK (K := K) (by rfl)) (pv 2) pe_int (fun _ _ => rfl))) (blkOk_by (own := [("_law_block_here", 4)]) (N := ["_law_deeds", "_law_cell", "_law_deed", "_law_found", "_law_block_here"]) (sc := defScope s__law_value) (by decide +kernel)) (fun _ _ _ _ _ => (pg_name (i := 4) sc__law_value.nd rfl (by first | exact Or.inl rfl | exact Or.inr rfl))) (fun _ _ _ _ _ => pts_nil) (fun _ _ _ _ _ => (pe_call (ok__law_in T) (hr.mono (by decide)) (by rfl) (g__law_in T) (F__law_in T).kp (b__law_in T) .nil pass0 (pa_cons (pv 4) (pa_cons (pv 1) pa_nil))))) (by rfl))))) (pss_one (ps_ret (pe_ix (ixTK (K := K) (by rfl)) (pv 2) pe_int (fun _ _ => rfl)))) pss_nil)
      (pss_cons (ps_if (PW.pt (pw_and (pt_cmpR op_eq (pe_ix (ixTK (K := K) (by rfl)) (pv 2) pe_int (fun _ _ => rfl)) pe_str (nomark _)) (pw_and (pt_cmpR op_gt (pe_ix (ixTK (K := K) (by rfl)) (pv 1) pe_int (fun _ _ => rfl)) (pe_ix (ixTK (K := K) (by rfl)) (pv 2) pe_int (fun _ _ => rfl)) (nomark _)) (pw_and1 (pt_cmpR op_gt (pe_ix (ixTK (K := K) (by rfl)) (pv 1) pe_int (fun _ _ => rfl)) (pe_ix (ixTK (K := K) (by rfl)) (pv 2) pe_int (fun _ _ => rfl)) (nomark _)))))) (pss_cons ps_never
      (pss_one ps_never)) pss_nil)
      (pss_one (ps_if (pt_cmpR op_eq (pe_ix (ixTK (K := K) (by rfl)) (pv 2) pe_int (fun _ _ => rfl)) pe_str (nomark _)) (pss_cons ps_never
      (pss_one ps_never)) pss_nil)))))
      (pss_one (ps_ret pe_str))), ?_⟩
    walk_at "go"
    refine revG IsFill.mono hds e fun G1 H1 p1 s1 hr1 => ?_
    have hx1 := IsII.mono _ _ _ _ s1.g hx
    refine forG (K := K) (R := IsFill) IsFill.mono hr1 s1.i (fun i σ' G' H' => ∃ o1 o2 o3, σ' = [some v, some u, o1, o2, o3] ∧ St G1 H1 G' H' ∧ ∀ d ∈ ds.reverse.take i, cellsOf d.1 x.1 x.2 = false)
      ⟨none, none, none, rfl, Stm.refl s1.i, fun d hd => nomatch hd⟩ (fun i σ' G' H' _ ⟨_, _, _, _, s, _⟩ => ⟨s.g, s.i⟩) ?_ ?_
    · rintro i d wv σ1 G2 H2 hi ⟨o1, o2, o3, rfl, s2, hno⟩ ⟨t, w1, rfl, ht, hL⟩
      have hmem : d ∈ ds := List.mem_reverse.mp (List.mem_of_getElem? hi)
      walk_at "go"
      refine ⟨t, _, 0, _, rfl, rfl, sqt (s2.i _ _ ht), rfl, ?_⟩
      walk_at "go"
      refine ⟨t, _, 1, _, rfl, rfl, sqt (s2.i _ _ ht), rfl, ?_⟩
      refine lcG (R := IsTB) (S := IsB) IsTB.mono IsB.mono (fun _ => true) (fun b => inB b x.1 x.2) s2.i hL (Nat.lt_of_le_of_lt (hz d hmem) (by decide)) (fun b wb G3 H3 N0 N1 _ s3 hb n0 n1 => ?_) fun G3 H3 D s3 hD => ?_
      · walk_at "go"
        refine ⟨rfl, ?_⟩
        walk_at "go"
        exact ⟨G3, wb, u, b, x, rfl, s3.i, hb, IsII.mono _ _ _ _ (s2.g.trans s3.g) hx1, n1 _ _ _ (Stm.refl s3.i) rfl rfl⟩
      · walk_at "go"
        have ef : (d.1.filter fun _ => true) = d.1 := List.filter_eq_self.mpr fun _ _ => rfl
        rw [ef] at hD
        refine inTrue hD s3.i ?_
        rw [List.any_map]
        show ∃ b, V.bl (cellsOf d.1 x.1 x.2) = V.bl b ∧ _
        have ht3 := s3.i _ _ (s3.g _ _ ht)
        refine ⟨_, rfl, ite_b2 (fun c1 => ?_) (fun c1 => ?_)⟩
        · walk_at "go"
          refine ⟨t, _, 2, _, rfl, rfl, sqt ht3, rfl, ?_⟩
          walk_at "go"
          have ev : valF ds x.1 x.2 = d.2 := by
            unfold valF
            have hil : i < ds.reverse.length := (List.getElem?_eq_some_iff.mp hi).1
            have hd : ds.reverse = ds.reverse.take i ++ d :: ds.reverse.drop (i + 1) := by
              have hg : ds.reverse[i] = d := (List.getElem?_eq_some_iff.mp hi).2
              have e1 : ds.reverse.drop i = d :: ds.reverse.drop (i + 1) := by rw [List.drop_eq_getElem_cons hil, hg]
              rw [← e1, List.take_append_drop]
            rw [hd, List.find?_append, List.find?_eq_none.mpr (fun y hy => by rw [hno y hy]; decide), Option.none_or, List.find?_cons, c1]
            rfl
          have q1 := q G3 H3 ((s1.trans s2).trans s3)
          rw [ev] at q1
          exact q1
        · walk_at "go"
          refine ⟨t, _, 0, _, rfl, rfl, sqt ht3, rfl, ?_⟩
          walk_at "go"
          refine ⟨t, _, 0, _, rfl, rfl, sqt ht3, rfl, ?_⟩
          walk_at "go"
          refine ⟨G3, _, _, _, rfl, s2.trans s3, fun y hy => ?_⟩
          rw [take_more hi] at hy
          rcases List.mem_append.mp hy with hy | hy
          · exact hno y hy
          · rw [List.mem_singleton.mp hy]; exact c1
    · rintro σ' G2 H2 ⟨o1, o2, o3, rfl, s2, hno⟩
      walk_at "go"
      have ev : valF ds x.1 x.2 = Str.ofString "" := by
        unfold valF
        rw [List.find?_eq_none.mpr fun y hy => by rw [hno y (by rw [List.take_length]; exact hy)]; decide]
        rfl
      have q1 := q G2 H2 (s1.trans s2)
      rw [ev] at q1
      exact q1
end
end GT

/-! ## LC -/
set_option Elab.async false
set_option linter.all false
set_option maxRecDepth 100000
set_option maxHeartbeats 400000
namespace GT
open PySem PySem.Spec PyProof.Rows L2 G
local macro_rules | `(tactic| walk_at "ex") => `(tactic| first | exact Ex.refl _ | assumption | exact Stm.g (by assumption) | (refine Ex.trans ?_ (Stm.g (by assumption)); walk_at "ex"))
local macro_rules | `(tactic| walk_at "st") => `(tactic| first | exact Stm.refl (by assumption) | assumption | (refine Stm.trans ?_ (by assumption); walk_at "st"))
local macro_rules | `(tactic| walk_at "i") => `(tactic| first | assumption | exact Stm.i (by assumption))
local macro_rules | `(tactic| walk_at "fact") => `(tactic| first | rfl | exact (rfl : V.non = optV none) | exact (rfl : V.int _ = optV (some _)) | assumption)
local macro_rules | `(tactic| walk_at "g") => `(tactic| first
  | with_reducible refine x_seq ?_
  | with_reducible refine x_next ?_
  | with_reducible refine x_asg ?_
  | with_reducible refine x_ret ?_
  | with_reducible refine x_retN ?_
  | with_reducible refine x_drop ?_
  | with_reducible refine x_ifs ?_
  | ((with_reducible refine' x_var ?hv ?_); (case hv => exact rfl))
  | with_reducible refine x_c ?_
  | with_reducible refine x_op ?_
  | with_reducible refine x_un ?_
  | with_reducible refine x_test ?_
  | with_reducible refine x_B ?_
  | with_reducible refine x_bl ?_
  | with_reducible refine x_and ?_
  | with_reducible refine x_or ?_
  | with_reducible refine x_not ?_
  | with_reducible refine x_andV ?_
  | with_reducible refine x_orV ?_
  | with_reducible refine x_notV ?_
  | with_reducible refine x_ife ?_
  | with_reducible refine x_isN ?_
  | with_reducible refine x_notN ?_
  | with_reducible refine x_nil ?_
  | with_reducible refine x_cons ?_
  | with_reducible refine x_cb ?_
  | with_reducible refine x_call ?_
  | ((with_reducible refine' x_callL ?hv ?_); (case hv => exact rfl))
  | ((with_reducible refine' x_gnameN ?hv ?_); (case hv => (simp only [L2.start, List.map_cons, List.map_nil, List.length_cons, List.length_nil, List.replicate_succ, List.replicate_zero, List.cons_append, List.nil_append, List.set_cons_zero, List.set_cons_succ, Nat.reduceAdd, Nat.reduceSub, Nat.add_one_sub_one]; exact rfl)))
  | with_reducible refine x_gname ?_
  | with_reducible refine x_I0 ?_
  | ((with_reducible refine' x_eq ?hv ?_); (case hv => exact rfl))
  | ((with_reducible refine' x_ne ?hv ?_); (case hv => exact rfl))
  | with_reducible refine x_tupG ?_
  | with_reducible refine x_lstG ?_
  | with_reducible refine x_lc ?_
  | (with_reducible refine x_U ?_)
  | ((with_reducible refine' ite_T ?hv ?_); (case hv => exact rfl))
  | ((with_reducible refine' ite_F ?hv ?_); (case hv => exact rfl))
  | with_reducible refine x_for ?_
  | with_reducible refine x_iEnum ?_
  | with_reducible refine x_iRng1 ?_
  | with_reducible refine x_iList ?_
  | with_reducible refine x_iTup ?_
  | with_reducible refine x_gcons ?_
  | with_reducible refine x_gnil ?_
  | with_reducible refine x_bm ?_
  | with_reducible refine x_fldG ?_
  | with_reducible refine x_meth ?_
  | with_reducible refine x_sl ?_
  | with_reducible refine x_nopart ?_
  | with_reducible refine x_part ?_
  | with_reducible refine x_int ?_
  | with_reducible refine x_yes ?_
  | with_reducible refine x_isNG ?_
  | with_reducible refine x_notNG ?_
  | fail "no step")
local macro_rules | `(tactic| walk_at "g2") => `(tactic| first
  | with_reducible refine x_sfld ?_
  | with_reducible refine x_make ?_
  | with_reducible refine x_dnew ?_
  | with_reducible refine x_lcT ?_
  | with_reducible refine x_lcS ?_
  | with_reducible refine x_disp ?_
  | with_reducible refine x_pcons ?_
  | with_reducible refine x_pnil ?_
  | with_reducible refine x_dnewK ?_
  | with_reducible refine x_dput ?_
  | with_reducible refine x_gsub ?_
  | with_reducible refine x_dget2 ?_
  | with_reducible refine x_litems ?_
  | with_reducible refine x_bmX ?_
  | with_reducible refine x_ckw ?_
  | with_reducible refine L2Z.x_methS ?_
  | with_reducible refine L2Z.x_methN ?_
  | with_reducible refine x_callSD ?_
  | with_reducible refine x_lcZ ?_
  | with_reducible refine x_iZip ?_
  | with_reducible refine x_dget ?_
  | with_reducible refine x_revL ?_
  | walk_at "g")
local macro_rules | `(tactic| walk_at "go") => `(tactic| repeat' walk_at "g2")

section
variable {P : Program} {w : World} {K : PySem.W.Frag} {mg : Str → Option Value} {base : Heap}
def sp_law_with : Sp := fun vs H Q _ => ∃ G v u r c m d R C, vs = [v, u, r, c] ∧ Ex G H ∧ IsMine G v m ∧ IsFill G u d ∧ IsL IsI G r R ∧ IsL IsI G c C ∧ m.ds.length ≤ 1000 ∧ R.length ≤ 3500 ∧ C.length ≤ 3500 ∧
  ∀ G1 H1 x, St G H G1 H1 → IsMine G1 x ⟨m.ds ++ [d], sd R, sd C⟩ → Q x H1
theorem sc__law_with : FnScope ["_law_mine", "_law_deed", "_law_rows", "_law_columns"] ["_law_mine", "_law_deed", "_law_rows", "_law_columns"] (defScope s__law_with) := ⟨rfl, rfl, rfl, by decide +kernel, rfl, by decide +kernel, by decide +kernel⟩
theorem ok__law_with (T : TX K mg) : FnOk P w K mg base CX0 1 (f__law_with K) (fdO K (f__law_with K)) ["_law_mine", "_law_deed", "_law_rows", "_law_columns"] sp_law_with := by
  refine (F__law_with T).ok sc__law_with (fun vs H Q E h => ?_) (fun cdv A outer s H vs Q E hr h => ?_)
  · obtain ⟨_, _, _, _, _, _, _, _, _, rfl, _⟩ := h; rfl
  · obtain ⟨G0, v, u, r, c, m, d, R, C, rfl, e, ⟨p, dd, rr, cc, rfl, hm⟩, hd, hR, hC, z1, z2, z3, k⟩ := h
    have big : 3501 < scanBound := by decide
    refine ⟨_, PSs.nox (pss_one (ps_ret (pe_disp (pps_cons pe_str (pe_op op_cat (pe_dget (Nat.lt_of_le_of_lt (Nat.add_le_add_left (by decide : 1 ≤ 64) _) hr.units) (pv 0) pe_str (fun _ _ => rfl)) (pe_lst (pa_cons (pv 1) pa_nil))) (pps_cons pe_str (pe_callB (cr_sortedSetA rfl) (by rfl) (z_sorted T) (by decide +kernel) (pa_cons (pe_callTy (cr_setI rfl) (by rfl) (z_set T) (by decide +kernel) (pa_cons (pv 2) pa_nil)) pa_nil)) (pps_cons pe_str (pe_callB (cr_sortedSetA rfl) (by rfl) (z_sorted T) (by decide +kernel) (pa_cons (pe_callTy (cr_setI rfl) (by rfl) (z_set T) (by decide +kernel) (pa_cons (pv 3) pa_nil)) pa_nil)) pps_nil))) (by rfl) (by rfl) (fun z => by cases z) (by decide)))), ?_⟩
    walk_at "go"
    refine dispM e fun q H1 hq s1 m1 => ?_
    walk_at "go"
    refine dgetF (s1.i _ _ (s1.g _ _ hm.o)) (mine_deeds dd rr cc) ?_
    walk_at "go"
    refine lstI s1.i (by show 1 ≤ 1000; decide) fun l G2 H2 s2 g2 => ?_
    have a2 := s1.trans s2
    refine catL IsFill.mono (IsL.mono IsFill.mono _ _ _ _ a2.g hm.ds) (ys := [d]) ⟨l, _, rfl, g2, .cons (IsFill.mono _ _ _ _ a2.g hd) .nil⟩ s2.i (Nat.le_trans (show m.ds.length + 1 ≤ 1001 by omega) (by decide)) fun l3 G3 H3 s3 h3 => ?_
    walk_at "go"
    have a3 := a2.trans s3
    refine x_setI (IsL.mono IsI.mono _ _ _ _ a3.g hR) s3.i (by omega) fun p4 H4 c4 s4 g4 => ?_
    walk_at "go"
    refine x_sortedSet (G := G3) g4 s4.i fun p5 G5 H5 s5 hL5 => ?_
    walk_at "go"
    have a5 := (a3.trans s4).trans s5
    refine x_setI (IsL.mono IsI.mono _ _ _ _ a5.g hC) s5.i (by omega) fun p6 H6 c6 s6 g6 => ?_
    walk_at "go"
    refine x_sortedSet (G := G5) g6 s6.i fun p7 G7 H7 s7 hL7 => ?_
    walk_at "go"
    have a7 := (a5.trans s6).trans s7
    have m7 : Mu G7 H7 q (.dK []) := ((((s2.trans s3).trans s4).trans s5).trans (s6.trans s7)).mu m1
    refine mineDisp m7 a7.i fun G8 H8 s8 g8 => ?_
    have st : St G0 H G8 H8 := Stm.fresh (Stm.refl e) ((St.up a7).trans s8) fun a ha => by rw [List.mem_singleton.mp ha]; exact hq
    refine k G8 H8 _ st ⟨q, _, _, _, rfl, g8, IsL.mono IsFill.mono _ _ _ _ ((((s4.trans s5).trans s6).trans s7).g.trans s8.g) h3, IsL.mono IsI.mono _ _ _ _ ((s6.trans s7).g.trans s8.g) hL5, IsL.mono IsI.mono _ _ _ _ s8.g hL7⟩
def sp_law_filled : Sp := fun vs H Q _ => ∃ G v u m bs z, vs = [v, u, .str z] ∧ Ex G H ∧ IsMine G v m ∧ IsL IsTB G u bs ∧ m.ds.length ≤ 1000 ∧ bs.length ≤ 1000 ∧ m.R.length ≤ 1000 ∧ m.C.length ≤ 1000 ∧
  ∀ G1 H1 x, St G H G1 H1 → IsMine G1 x (lfill m bs z) → Q x H1
theorem sc__law_filled : FnScope ["_law_mine", "_law_blocks", "_law_value_here", "_law_rows", "_law_columns", "_law_block_here"] ["_law_mine", "_law_blocks", "_law_value_here"] (defScope s__law_filled) := ⟨rfl, rfl, rfl, by decide +kernel, rfl, by decide +kernel, by decide +kernel⟩
theorem ok__law_filled (T : TX K mg) : FnOk P w K mg base CX0 2 (f__law_filled K) (fdO K (f__law_filled K)) ["_law_mine", "_law_blocks", "_law_value_here"] sp_law_filled := by
  refine (F__law_filled T).ok sc__law_filled (fun vs H Q E h => ?_) (fun cdv A outer s H vs Q E hr h => ?_)
  · obtain ⟨_, _, _, _, _, _, rfl, _⟩ := h; rfl
  · obtain ⟨G0, v, u, m, bs, z, rfl, e, ⟨p, dd, rr, cc, rfl, hm⟩, hb, z1, z2, z3, z4, k⟩ := h
    have hz' : bs.length < sizeLine := Nat.lt_of_le_of_lt z2 (by decide)
    have big : 5001 < sizeLine := by decide
    refine ⟨_, PSs.nox (pss_cons (ps_set (i := 3) sc__law_filled.nd rfl (by first | exact Or.inl rfl | exact Or.inr rfl) (pe_op op_cat (pe_op op_cat (pe_dget (Nat.lt_of_le_of_lt (Nat.add_le_add_left (by decide : 1 ≤ 64) _) hr.units) (pv 0) pe_str (fun _ _ => rfl)) (pe_lc (own := [("_law_block_here", 5)]) (g := gName 5) (by rfl) sc__law_filled.nd (pi_list (pv 1)) (blkOk_by (own := [("_law_block_here", 5)]) (N := ["_law_mine", "_law_blocks", "_law_value_here", "_law_rows", "_law_columns", "_law_block_here"]) (sc := defScope s__law_filled) (by decide +kernel)) (fun _ _ _ _ _ => (pg_name (i := 5) sc__law_filled.nd rfl (by first | exact Or.inl rfl | exact Or.inr rfl))) (fun _ _ _ _ _ => pts_nil) (fun _ _ _ _ _ => (pe_ix (ixTK (K := K) (by rfl)) (pv 5) pe_int (fun _ _ => rfl))))) (pe_lc (own := [("_law_block_here", 5)]) (g := gName 5) (by rfl) sc__law_filled.nd (pi_list (pv 1)) (blkOk_by (own := [("_law_block_here", 5)]) (N := ["_law_mine", "_law_blocks", "_law_value_here", "_law_rows", "_law_columns", "_law_block_here"]) (sc := defScope s__law_filled) (by decide +kernel)) (fun _ _ _ _ _ => (pg_name (i := 5) sc__law_filled.nd rfl (by first | exact Or.inl rfl | exact Or.inr rfl))) (fun _ _ _ _ _ => (pts_one (pt_cmpR op_notNG (pe_ix (ixTK (K := K) (by rfl)) (pv 5) pe_int (fun _ _ => rfl)) pe_non (nomark _)))) (fun _ _ _ _ _ => (pe_op op_add (pe_ix (ixTK (K := K) (by rfl)) (pv 5) pe_int (fun _ _ => rfl)) pe_int)))))
      (pss_cons (ps_set (i := 4) sc__law_filled.nd rfl (by first | exact Or.inl rfl | exact Or.inr rfl) (pe_op op_cat (pe_dget (Nat.lt_of_le_of_lt (Nat.add_le_add_left (by decide : 1 ≤ 64) _) hr.units) (pv 0) pe_str (fun _ _ => rfl)) (pe_lc (own := [("_law_block_here", 5)]) (g := gName 5) (by rfl) sc__law_filled.nd (pi_list (pv 1)) (blkOk_by (own := [("_law_block_here", 5)]) (N := ["_law_mine", "_law_blocks", "_law_value_here", "_law_rows", "_law_columns", "_law_block_here"]) (sc := defScope s__law_filled) (by decide +kernel)) (fun _ _ _ _ _ => (pg_name (i := 5) sc__law_filled.nd rfl (by first | exact Or.inl rfl | exact Or.inr rfl))) (fun _ _ _ _ _ => pts_nil) (fun _ _ _ _ _ => (pe_ix (ixTK (K := K) (by rfl)) (pv 5) pe_int (fun _ _ => rfl))))))
      (pss_cons (ps_set (i := 4) sc__law_filled.nd rfl (by first | exact Or.inl rfl | exact Or.inr rfl) (pe_op op_cat (pv 4) (pe_lc (own := [("_law_block_here", 5)]) (g := gName 5) (by rfl) sc__law_filled.nd (pi_list (pv 1)) (blkOk_by (own := [("_law_block_here", 5)]) (N := ["_law_mine", "_law_blocks", "_law_value_here", "_law_rows", "_law_columns", "_law_block_here"]) (sc := defScope s__law_filled) (by decide +kernel)) (fun _ _ _ _ _ => (pg_name (i := 5) sc__law_filled.nd rfl (by first | exact Or.inl rfl | exact Or.inr rfl))) (fun _ _ _ _ _ => (pts_one (pt_cmpR op_notNG (pe_ix (ixTK (K := K) (by rfl)) (pv 5) pe_int (fun _ _ => rfl)) pe_non (nomark _)))) (fun _ _ _ _ _ => (pe_op op_add (pe_ix (ixTK (K := K) (by rfl)) (pv 5) pe_int (fun _ _ => rfl)) pe_int)))))
      (pss_one (ps_ret (pe_call (ok__law_with T) (hr.mono (by decide)) (by rfl) (g__law_with T) (F__law_with T).kp (b__law_with T) .nil pass0 (pa_cons (pv 0) (pa_cons (pe_tup (pa_cons pe_str (pa_cons (pv 1) (pa_cons (pv 2) pa_nil)))) (pa_cons (pv 3) (pa_cons (pv 4) pa_nil)))))))))), ?_⟩
    have ef : (bs.filter fun _ => true) = bs := List.filter_eq_self.mpr fun _ _ => rfl
    have l1 : (bs.filter fun x => x.b.isSome).length ≤ 1000 := Nat.le_trans (List.length_filter_le _ _) z2
    have l2 : (bs.filter fun x => x.r.isSome).length ≤ 1000 := Nat.le_trans (List.length_filter_le _ _) z2
    walk_at "go"
    refine dgetF (e _ _ hm.o) (mine_rows dd rr cc) ?_
    walk_at "go"
    refine lcG (R := IsTB) (S := IsI) IsTB.mono IsI.mono (fun _ => true) (fun b => b.t) e hb hz' (fun b wb G1 H1 N0 N1 _ s1 hw n0 n1 => ?_) fun G1 H1 D1 s1 hD1 => ?_
    · walk_at "go"
      refine ⟨rfl, ?_⟩
      walk_at "go"
      exact ixQ (j := 0) hw s1.i rfl rfl (n1 _ _ _ (Stm.refl s1.i) rfl rfl)
    rw [ef] at hD1
    walk_at "go"
    refine catL IsI.mono (IsL.mono IsI.mono _ _ _ _ s1.g hm.R) hD1 s1.i (by rw [List.length_map]; omega) fun l2' G2 H2 s2 h2 => ?_
    have a2 := s1.trans s2
    walk_at "go"
    refine lcG (R := IsTB) (S := IsI) IsTB.mono IsI.mono (fun b => b.b.isSome) (fun b => b.b.getD 0 + 1) s2.i (IsL.mono IsTB.mono _ _ _ _ a2.g hb) hz' (fun b wb G3 H3 N0 N1 _ s3 hw n0 n1 => ?_) fun G3 H3 D3 s3 hD3 => ?_
    · walk_at "go"
      refine ⟨rfl, ?_⟩
      walk_at "go"
      refine ixQ (j := 2) hw s3.i rfl rfl ?_
      cases hbb : b.b with
      | none =>
        walk_at "go"
        exact n0 _ _ (Stm.refl s3.i) (by rw [hbb]; rfl)
      | some y =>
        walk_at "go"
        refine ixQ (j := 2) hw s3.i rfl rfl ?_
        rw [hbb]
        walk_at "go"
        exact n1 _ _ _ (Stm.refl s3.i) (by rw [hbb]; rfl) (by rw [hbb]; rfl)
    have a3 := a2.trans s3
    refine catL IsI.mono (IsL.mono IsI.mono _ _ _ _ s3.g h2) hD3 s3.i (by rw [List.length_append, List.length_map, List.length_map]; omega) fun l4 G4 H4 s4 h4 => ?_
    walk_at "go"
    have a4 := a3.trans s4
    refine dgetF (a4.i _ _ (a4.g _ _ hm.o)) (mine_cols dd rr cc) ?_
    walk_at "go"
    refine lcG (R := IsTB) (S := IsI) IsTB.mono IsI.mono (fun _ => true) (fun b => b.l) a4.i (IsL.mono IsTB.mono _ _ _ _ a4.g hb) hz' (fun b wb G5 H5 N0 N1 _ s5 hw n0 n1 => ?_) fun G5 H5 D5 s5 hD5 => ?_
    · walk_at "go"
      refine ⟨rfl, ?_⟩
      walk_at "go"
      exact ixQ (j := 1) hw s5.i rfl rfl (n1 _ _ _ (Stm.refl s5.i) rfl rfl)
    rw [ef] at hD5
    walk_at "go"
    have a5 := a4.trans s5
    refine catL IsI.mono (IsL.mono IsI.mono _ _ _ _ a5.g hm.C) hD5 s5.i (by rw [List.length_map]; omega) fun l6 G6 H6 s6 h6 => ?_
    walk_at "go"
    have a6 := a5.trans s6
    refine lcG (R := IsTB) (S := IsI) IsTB.mono IsI.mono (fun b => b.r.isSome) (fun b => b.r.getD 0 + 1) s6.i (IsL.mono IsTB.mono _ _ _ _ a6.g hb) hz' (fun b wb G7 H7 N0 N1 _ s7 hw n0 n1 => ?_) fun G7 H7 D7 s7 hD7 => ?_
    · walk_at "go"
      refine ⟨rfl, ?_⟩
      walk_at "go"
      refine ixQ (j := 3) hw s7.i rfl rfl ?_
      cases hbb : b.r with
      | none =>
        walk_at "go"
        exact n0 _ _ (Stm.refl s7.i) (by rw [hbb]; rfl)
      | some y =>
        walk_at "go"
        refine ixQ (j := 3) hw s7.i rfl rfl ?_
        rw [hbb]
        walk_at "go"
        exact n1 _ _ _ (Stm.refl s7.i) (by rw [hbb]; rfl) (by rw [hbb]; rfl)
    walk_at "go"
    have a7 := a6.trans s7
    refine catL IsI.mono (IsL.mono IsI.mono _ _ _ _ s7.g h6) hD7 s7.i (by rw [List.length_append, List.length_map, List.length_map]; omega) fun l8 G8 H8 s8 h8 => ?_
    walk_at "go"
    refine tupI s8.i (by show 3 ≤ 1000; decide) fun t9 G9 H9 s9 g9 => ?_
    walk_at "go"
    have a9 := (a7.trans s8).trans s9
    have e1 : m.R ++ bs.map (fun b => b.t) ++ (bs.filter fun b => b.b.isSome).map (fun b => b.b.getD 0 + 1) = m.R ++ rowCuts bs := by
      rw [row_ends, List.append_assoc]; unfold rowCuts cutsOf; rw [List.map_map]; rfl
    have e2 : m.C ++ bs.map (fun b => b.l) ++ (bs.filter fun b => b.r.isSome).map (fun b => b.r.getD 0 + 1) = m.C ++ colCuts bs := by
      rw [col_ends, List.append_assoc]; unfold colCuts cutsOf; rw [List.map_map]; rfl
    have q1 : (m.R ++ rowCuts bs).length ≤ 3500 := by rw [← e1]; simp only [List.length_append, List.length_map]; omega
    have q2 : (m.C ++ colCuts bs).length ≤ 3500 := by rw [← e2]; simp only [List.length_append, List.length_map]; omega
    rw [e1] at h4
    rw [e2] at h8
    refine ⟨G9, .ref p, .ref t9, .ref l4, .ref l8, m, (bs, z), _, _, rfl, s9.i, ⟨p, dd, rr, cc, rfl, hm.mono a9.g⟩, ⟨t9, u, rfl, g9, IsL.mono IsTB.mono _ _ _ _ a9.g hb⟩, IsL.mono IsI.mono _ _ _ _ (((s5.trans s6).trans s7).trans (s8.trans s9)).g h4, IsL.mono IsI.mono _ _ _ _ s9.g h8, z1, q1, q2, fun G10 H10 x s10 hx => ?_⟩
    exact k G10 H10 x (a9.trans s10) hx
end
end GT

/-! ## LD -/
set_option Elab.async false
set_option linter.all false
set_option maxRecDepth 100000
set_option maxHeartbeats 400000
namespace GT
open PySem PySem.Spec PyProof.Rows L2 G
local macro_rules | `(tactic| walk_at "ex") => `(tactic| first | exact Ex.refl _ | assumption | exact Stm.g (by assumption) | (refine Ex.trans ?_ (Stm.g (by assumption)); walk_at "ex"))
local macro_rules | `(tactic| walk_at "st") => `(tactic| first | exact Stm.refl (by assumption) | assumption | (refine Stm.trans ?_ (by assumption); walk_at "st"))
local macro_rules | `(tactic| walk_at "i") => `(tactic| first | assumption | exact Stm.i (by assumption))
local macro_rules | `(tactic| walk_at "fact") => `(tactic| first | rfl | exact (rfl : V.non = optV none) | exact (rfl : V.int _ = optV (some _)) | assumption)
local macro_rules | `(tactic| walk_at "g") => `(tactic| first
  | with_reducible refine x_seq ?_
  | with_reducible refine x_next ?_
  | with_reducible refine x_asg ?_
  | with_reducible refine x_ret ?_
  | with_reducible refine x_retN ?_
  | with_reducible refine x_drop ?_
  | with_reducible refine x_ifs ?_
  | ((with_reducible refine' x_var ?hv ?_); (case hv => exact rfl))
  | with_reducible refine x_c ?_
  | with_reducible refine x_op ?_
  | with_reducible refine x_un ?_
  | with_reducible refine x_test ?_
  | with_reducible refine x_B ?_
  | with_reducible refine x_bl ?_
  | with_reducible refine x_and ?_
  | with_reducible refine x_or ?_
  | with_reducible refine x_not ?_
  | with_reducible refine x_andV ?_
  | with_reducible refine x_orV ?_
  | with_reducible refine x_notV ?_
  | with_reducible refine x_ife ?_
  | with_reducible refine x_isN ?_
  | with_reducible refine x_notN ?_
  | with_reducible refine x_nil ?_
  | with_reducible refine x_cons ?_
  | with_reducible refine x_cb ?_
  | with_reducible refine x_call ?_
  | ((with_reducible refine' x_callL ?hv ?_); (case hv => exact rfl))
  | ((with_reducible refine' x_gnameN ?hv ?_); (case hv => (simp only [L2.start, List.map_cons, List.map_nil, List.length_cons, List.length_nil, List.replicate_succ, List.replicate_zero, List.cons_append, List.nil_append, List.set_cons_zero, List.set_cons_succ, Nat.reduceAdd, Nat.reduceSub, Nat.add_one_sub_one]; exact rfl)))
  | with_reducible refine x_gname ?_
  | with_reducible refine x_I0 ?_
  | ((with_reducible refine' x_eq ?hv ?_); (case hv => exact rfl))
  | ((with_reducible refine' x_ne ?hv ?_); (case hv => exact rfl))
  | with_reducible refine x_tupG ?_
  | with_reducible refine x_lstG ?_
  | with_reducible refine x_lc ?_
  | (with_reducible refine x_U ?_)
  | ((with_reducible refine' ite_T ?hv ?_); (case hv => exact rfl))
  | ((with_reducible refine' ite_F ?hv ?_); (case hv => exact rfl))
  | with_reducible refine x_for ?_
  | with_reducible refine x_iEnum ?_
  | with_reducible refine x_iRng1 ?_
  | with_reducible refine x_iList ?_
  | with_reducible refine x_iTup ?_
  | with_reducible refine x_gcons ?_
  | with_reducible refine x_gnil ?_
  | with_reducible refine x_bm ?_
  | with_reducible refine x_fldG ?_
  | with_reducible refine x_meth ?_
  | with_reducible refine x_sl ?_
  | with_reducible refine x_nopart ?_
  | with_reducible refine x_part ?_
  | with_reducible refine x_int ?_
  | with_reducible refine x_yes ?_
  | with_reducible refine x_isNG ?_
  | with_reducible refine x_notNG ?_
  | fail "no step")
local macro_rules | `(tactic| walk_at "g2") => `(tactic| first
  | with_reducible refine x_sfld ?_
  | with_reducible refine x_make ?_
  | with_reducible refine x_dnew ?_
  | with_reducible refine x_lcT ?_
  | with_reducible refine x_lcS ?_
  | with_reducible refine x_disp ?_
  | with_reducible refine x_pcons ?_
  | with_reducible refine x_pnil ?_
  | with_reducible refine x_dnewK ?_
  | with_reducible refine x_dput ?_
  | with_reducible refine x_gsub ?_
  | with_reducible refine x_dget2 ?_
  | with_reducible refine x_litems ?_
  | with_reducible refine x_bmX ?_
  | with_reducible refine x_ckw ?_
  | with_reducible refine L2Z.x_methS ?_
  | with_reducible refine L2Z.x_methN ?_
  | with_reducible refine x_callSD ?_
  | with_reducible refine x_lcZ ?_
  | with_reducible refine x_iZip ?_
  | with_reducible refine x_dget ?_
  | with_reducible refine x_revL ?_
  | walk_at "g")
local macro_rules | `(tactic| walk_at "go") => `(tactic| repeat' walk_at "g2")

section
variable {P : Program} {w : World} {K : PySem.W.Frag} {mg : Str → Option Value} {base : Heap}
abbrev lrAt (cs : List Int) (ts : List Bool) (i : Nat) : LR := ((cs.zip ts).take i).foldl lrStep ([], none)
theorem lrAt_more {cs : List Int} {ts : List Bool} {i : Nat} {x : Int} {y : Bool} (h1 : cs[i]? = some x) (h2 : ts[i]? = some y) : lrAt cs ts (i + 1) = lrStep (lrAt cs ts i) (x, y) := by
  unfold lrAt
  rw [take_more (x := (x, y)) (by rw [List.getElem?_zip_eq_some]; exact ⟨h1, h2⟩), List.foldl_append]; rfl
theorem lrAt_len (cs : List Int) (ts : List Bool) : ∀ i, (lrAt cs ts i).1.length ≤ i := by
  intro i
  induction i with
  | zero => simp [lrAt]
  | succ i ih =>
    cases h : (cs.zip ts)[i]? with
    | none =>
      have : lrAt cs ts (i + 1) = lrAt cs ts i := by
        unfold lrAt
        have hl := List.getElem?_eq_none_iff.mp h
        rw [List.take_of_length_le (by omega), List.take_of_length_le (by omega)]
      rw [this]; omega
    | some z =>
      obtain ⟨x, y⟩ := z
      obtain ⟨h1, h2⟩ := List.getElem?_zip_eq_some.mp h
      rw [lrAt_more h1 h2]
      have : ∀ S : LR, (lrStep S (x, y)).1.length ≤ S.1.length + 1 := fun S => by
        obtain ⟨f, o⟩ := S
        cases y <;> cases o <;> simp [lrStep]
      exact Nat.le_trans (this _) (Nat.succ_le_succ ih)
def sp_law_runs : Sp := fun vs H Q _ => ∃ G v u cs ts, vs = [v, u] ∧ Ex G H ∧ IsL IsI G v cs ∧ IsL IsB G u ts ∧ cs.length = ts.length ∧ cs.length ≤ 1000 ∧ ∀ G1 H1 r, St G H G1 H1 → IsL IsRn G1 r (lruns cs ts) → Q r H1
theorem sc__law_runs : FnScope ["_law_columns", "_law_truths", "_law_found", "_law_begin", "_law_column", "_law_good"] ["_law_columns", "_law_truths"] (defScope s__law_runs) := ⟨rfl, rfl, rfl, by decide +kernel, rfl, by decide +kernel, by decide +kernel⟩
theorem ok__law_runs (T : TX K mg) : FnOk P w K mg base CX0 1 (f__law_runs K) (fdO K (f__law_runs K)) ["_law_columns", "_law_truths"] sp_law_runs := by
  refine (F__law_runs T).ok sc__law_runs (fun vs H Q E h => ?_) (fun cdv A outer s H vs Q E hr h => ?_)
  · obtain ⟨_, _, _, _, _, rfl, _⟩ := h; rfl
  · obtain ⟨G0, v, u, cs, ts, rfl, e, hc, ht, hl, hz, k⟩ := h
    refine ⟨_, PSs.nox (pss_cons (ps_set (i := 2) sc__law_runs.nd rfl (by first | exact Or.inl rfl | exact Or.inr rfl) (pe_lst pa_nil))
      (pss_cons (ps_set (i := 3) sc__law_runs.nd rfl (by first | exact Or.inl rfl | exact Or.inr rfl) pe_non)
      (pss_cons (ps_for PassesOwn.never rfl (pi_zip (by rfl) (z_zip T) (pa_cons (pv 0) (pa_cons (pv 1) pa_nil))) (pg_tup (by rfl) (pgs_cons (pg_name (i := 4) sc__law_runs.nd rfl (by first | exact Or.inl rfl | exact Or.inr rfl)) (pgs_cons (pg_name (i := 5) sc__law_runs.nd rfl (by first | exact Or.inl rfl | exact Or.inr rfl)) pgs_nil))) (pss_cons (ps_if (PW.pt (pw_and (pt_val (pv 5)) (pw_and1 (pt_cmpR op_isNG (pv 3) pe_non (nomark _))))) (pss_one (ps_set (i := 3) sc__law_runs.nd rfl (by first | exact Or.inl rfl | exact Or.inr rfl) (pv 4))) pss_nil)
      (pss_one (ps_if (PW.pt (pw_and (pt_not (pt_val (pv 5))) (pw_and1 (pt_cmpR op_notNG (pv 3) pe_non (nomark _))))) (pss_cons (ps_expr (pe_bm PySem.F.plainAttrs_list PySem.F.slot_list_append PySem.F.type_list_append mt_append (pv 2) (pa_cons (pe_tup (pa_cons (pv 3) (pa_cons (pe_op op_sub (pv 4) pe_int) pa_nil))) pa_nil)))
      (pss_one (ps_set (i := 3) sc__law_runs.nd rfl (by first | exact Or.inl rfl | exact Or.inr rfl) pe_non))) pss_nil))))
      (pss_cons (ps_if (pt_cmpR op_notNG (pv 3) pe_non (nomark _)) (pss_one (ps_expr (pe_bm PySem.F.plainAttrs_list PySem.F.slot_list_append PySem.F.type_list_append mt_append (pv 2) (pa_cons (pe_tup (pa_cons (pv 3) (pa_cons pe_non pa_nil))) pa_nil)))) pss_nil)
      (pss_one (ps_ret (pv 2))))))), ?_⟩
    walk_at "go"
    refine lstM e (Nat.zero_le _) fun pf H1 hpf s1 m1 => ?_
    walk_at "go"
    have hbig : 1001 < sizeLine := by decide
    refine zipG IsI.mono IsB.mono hc ht hl s1.i (fun i σ' G' H' => ∃ o4 o5 acc, σ' = [some v, some u, some (.ref pf), some (optV (lrAt cs ts i).2), o4, o5] ∧ Stm [pf] G0 H1 G' H' ∧ Mu G' H' pf (.lst acc) ∧ Paired (IsRn G') acc (lrAt cs ts i).1)
      ⟨none, none, [], rfl, Stm.refl s1.i, m1, .nil⟩ (fun i σ' G' H' _ ⟨_, _, _, _, s, _, _⟩ => ⟨s.g, s.i⟩) ?_ ?_
    · rintro i x y w1 w2 Tt σ1 G2 H2 G3 H3 D2 hx hy ⟨o4, o5, acc, rfl, s2, m2, p2⟩ s3 hw1 hw2 hT hnx
      cases hw1
      cases hw2
      have hacc : acc.length < sizeLine := by
        rw [paired_len p2]
        have := lrAt_len cs ts i
        have hi : i < cs.length := (List.getElem?_eq_some_iff.mp hx).1
        omega
      have more := lrAt_more hx hy
      have m3 := s3.mu m2
      have p3 := paired_imp (fun a b q => IsRn.mono _ _ a b s3.g q) p2
      have s23 := s2.trans (s3.sub (by simp))
      refine x_gtup (s3.i _ _ hT) rfl ?_
      walk_at "go"
      generalize hS : lrAt cs ts i = S at p3 more ⊢
      obtain ⟨f, o⟩ := S
      cases y with
      | true =>
        cases o with
        | none =>
          walk_at "go"
          exact hnx _ G3 H3 ⟨_, _, acc, by rw [more]; rfl, s23, m3, by rw [more]; exact p3⟩
        | some a =>
          walk_at "go"
          exact hnx _ G3 H3 ⟨_, _, acc, by rw [more]; rfl, s23, m3, by rw [more]; exact p3⟩
      | false =>
        cases o with
        | none =>
          walk_at "go"
          exact hnx _ G3 H3 ⟨_, _, acc, by rw [more]; rfl, s23, m3, by rw [more]; exact p3⟩
        | some a =>
          walk_at "go"
          refine ⟨x_tyL m3, ?_⟩
          walk_at "go"
          refine tupI s3.i (by show 2 ≤ 1000; decide) fun pt G4 H4 s4 ht4 => ?_
          walk_at "go"
          refine x_app (s4.mu m3) s4.i hacc fun H5 s5 m5 => ?_
          walk_at "go"
          exact hnx _ G4 H5 ⟨_, _, _, by rw [more]; rfl, (s23.trans (s4.sub (by simp))).trans s5, m5, by
            rw [more]
            exact paired_snoc ⟨pt, _, _, rfl, ht4, rfl, rfl⟩ (paired_imp (fun a b q => IsRn.mono _ _ a b s4.g q) p3)⟩
    · rintro σ' G2 H2 ⟨o4, o5, acc, rfl, s2, m2, p2⟩
      have eall : lrAt cs ts cs.length = (cs.zip ts).foldl lrStep ([], none) := by
        unfold lrAt
        rw [List.take_of_length_le (by rw [List.length_zip]; omega)]
      rw [eall] at p2 ⊢
      have hacc : acc.length < sizeLine := by
        rw [paired_len p2, ← eall]
        have := lrAt_len cs ts cs.length
        omega
      have k' : ∀ G1 H1 r, St G0 H G1 H1 → IsL IsRn G1 r (lrFin ((cs.zip ts).foldl lrStep ([], none))) → Q r H1 := k
      generalize (cs.zip ts).foldl lrStep ([], none) = S at p2 k' ⊢
      obtain ⟨f, o⟩ := S
      have fin : ∀ G3 H3 acc3 zs, Stm [pf] G0 H1 G3 H3 → Mu G3 H3 pf (.lst acc3) → Paired (IsRn G3) acc3 zs → lrFin (f, o) = zs → Q (.ref pf) H3 := fun G3 H3 acc3 zs s3 m3 p3 ez => by
        obtain ⟨s4, g4⟩ := freeze m3 s3.i
        refine k' _ H3 _ (Stm.fresh s1 (s3.trans s4) fun q hq => by rw [List.mem_singleton.mp hq]; exact hpf) ?_
        rw [ez]
        exact ⟨pf, acc3, rfl, g4, paired_imp (fun a b q => IsRn.mono _ _ a b s4.g q) p3⟩
      cases o with
      | none =>
        walk_at "go"
        exact fin G2 H2 acc f s2 m2 p2 rfl
      | some a =>
        walk_at "go"
        refine ⟨x_tyL m2, ?_⟩
        walk_at "go"
        refine tupI s2.i (by show 2 ≤ 1000; decide) fun pt G4 H4 s4 ht4 => ?_
        walk_at "go"
        refine x_app (s4.mu m2) s4.i hacc fun H5 s5 m5 => ?_
        walk_at "go"
        exact fin G4 H5 _ _ ((s2.trans (s4.sub (by simp))).trans s5) m5 (paired_snoc (y := (a, none)) ⟨pt, _, _, rfl, ht4, rfl, rfl⟩ (paired_imp (fun a b q => IsRn.mono _ _ a b s4.g q) p2)) rfl
end
end GT

/-! ## LE -/
set_option Elab.async false
set_option linter.all false
set_option maxRecDepth 100000
set_option maxHeartbeats 1000000
namespace GT
open PySem PySem.Spec PyProof.Rows L2 G
local macro_rules | `(tactic| walk_at "ex") => `(tactic| first | exact Ex.refl _ | assumption | exact Stm.g (by assumption) | (refine Ex.trans ?_ (Stm.g (by assumption)); walk_at "ex"))
local macro_rules | `(tactic| walk_at "st") => `(tactic| first | exact Stm.refl (by assumption) | assumption | (refine Stm.trans ?_ (by assumption); walk_at "st"))
local macro_rules | `(tactic| walk_at "i") => `(tactic| first | assumption | exact Stm.i (by assumption))
local macro_rules | `(tactic| walk_at "fact") => `(tactic| first | rfl | exact (rfl : V.non = optV none) | exact (rfl : V.int _ = optV (some _)) | assumption)
local macro_rules | `(tactic| walk_at "g") => `(tactic| first
  | with_reducible refine x_seq ?_
  | with_reducible refine x_next ?_
  | with_reducible refine x_asg ?_
  | with_reducible refine x_ret ?_
  | with_reducible refine x_retN ?_
  | with_reducible refine x_drop ?_
  | with_reducible refine x_ifs ?_
  | ((with_reducible refine' x_var ?hv ?_); (case hv => exact rfl))
  | with_reducible refine x_c ?_
  | with_reducible refine x_op ?_
  | with_reducible refine x_un ?_
  | with_reducible refine x_test ?_
  | with_reducible refine x_B ?_
  | with_reducible refine x_bl ?_
  | with_reducible refine x_and ?_
  | with_reducible refine x_or ?_
  | with_reducible refine x_not ?_
  | with_reducible refine x_andV ?_
  | with_reducible refine x_orV ?_
  | with_reducible refine x_notV ?_
  | with_reducible refine x_ife ?_
  | with_reducible refine x_isN ?_
  | with_reducible refine x_notN ?_
  | with_reducible refine x_nil ?_
  | with_reducible refine x_cons ?_
  | with_reducible refine x_cb ?_
  | with_reducible refine x_call ?_
  | ((with_reducible refine' x_callL ?hv ?_); (case hv => exact rfl))
  | ((with_reducible refine' x_gnameN ?hv ?_); (case hv => (simp only [L2.start, List.map_cons, List.map_nil, List.length_cons, List.length_nil, List.replicate_succ, List.replicate_zero, List.cons_append, List.nil_append, List.set_cons_zero, List.set_cons_succ, Nat.reduceAdd, Nat.reduceSub, Nat.add_one_sub_one]; exact rfl)))
  | with_reducible refine x_gname ?_
  | with_reducible refine x_I0 ?_
  | ((with_reducible refine' x_eq ?hv ?_); (case hv => exact rfl))
  | ((with_reducible refine' x_ne ?hv ?_); (case hv => exact rfl))
  | with_reducible refine x_tupG ?_
  | with_reducible refine x_lstG ?_
  | with_reducible refine x_lc ?_
  | (with_reducible refine x_U ?_)
  | ((with_reducible refine' ite_T ?hv ?_); (case hv => exact rfl))
  | ((with_reducible refine' ite_F ?hv ?_); (case hv => exact rfl))
  | with_reducible refine x_for ?_
  | with_reducible refine x_iEnum ?_
  | with_reducible refine x_iRng1 ?_
  | with_reducible refine x_iList ?_
  | with_reducible refine x_iTup ?_
  | with_reducible refine x_gcons ?_
  | with_reducible refine x_gnil ?_
  | with_reducible refine x_bm ?_
  | with_reducible refine x_fldG ?_
  | with_reducible refine x_meth ?_
  | with_reducible refine x_sl ?_
  | with_reducible refine x_nopart ?_
  | with_reducible refine x_part ?_
  | with_reducible refine x_int ?_
  | with_reducible refine x_yes ?_
  | with_reducible refine x_isNG ?_
  | with_reducible refine x_notNG ?_
  | fail "no step")
local macro_rules | `(tactic| walk_at "g2") => `(tactic| first
  | with_reducible refine x_sfld ?_
  | with_reducible refine x_make ?_
  | with_reducible refine x_dnew ?_
  | with_reducible refine x_lcT ?_
  | with_reducible refine x_lcS ?_
  | with_reducible refine x_disp ?_
  | with_reducible refine x_pcons ?_
  | with_reducible refine x_pnil ?_
  | with_reducible refine x_dnewK ?_
  | with_reducible refine x_dput ?_
  | with_reducible refine x_gsub ?_
  | with_reducible refine x_dget2 ?_
  | with_reducible refine x_litems ?_
  | with_reducible refine x_bmX ?_
  | with_reducible refine x_ckw ?_
  | with_reducible refine L2Z.x_methS ?_
  | with_reducible refine L2Z.x_methN ?_
  | with_reducible refine x_callSD ?_
  | with_reducible refine x_lcZ ?_
  | with_reducible refine x_iZip ?_
  | with_reducible refine x_dget ?_
  | with_reducible refine x_revL ?_
  | walk_at "g")
local macro_rules | `(tactic| walk_at "go") => `(tactic| repeat' walk_at "g2")

section
variable {P : Program} {w : World} {K : PySem.W.Frag} {mg : Str → Option Value} {base : Heap}
def runsZ (C : List Int) (z : Str) (l : List Str) : List Rn := lruns C (l.map fun a => decide (a = z))
abbrev lfAt (R : List Int) (rs : List (List Rn)) (i : Nat) : LF := ((R.zip rs).take i).foldl lfStep ([], [])
theorem lfAt_more {R : List Int} {rs : List (List Rn)} {i : Nat} {x : Int} {y : List Rn} (h1 : R[i]? = some x) (h2 : rs[i]? = some y) : lfAt R rs (i + 1) = lfStep (lfAt R rs i) (x, y) := by
  unfold lfAt
  rw [take_more (x := (x, y)) (by rw [List.getElem?_zip_eq_some]; exact ⟨h1, h2⟩), List.foldl_append]; rfl
theorem setd_le (f : Int) (bg : Bg) (r : Rn) : (setd f bg r).length ≤ bg.length + 1 := by
  unfold setd
  split <;> simp
theorem setds_le (f : Int) : ∀ (rs : List Rn) (bg : Bg), (rs.foldl (setd f) bg).length ≤ bg.length + rs.length
  | [], _ => Nat.le_refl _
  | r :: rs, bg => by
    rw [List.foldl_cons, List.length_cons]
    have h1 := setds_le f rs (setd f bg r)
    have h2 := setd_le f bg r
    omega
theorem part_len (p : Rn × Int → Bool) : ∀ l : Bg, (l.filter fun x => !p x).length + (l.filter p).length = l.length
  | [] => rfl
  | x :: l => by
    have ih := part_len p l
    rw [List.filter_cons, List.filter_cons]
    cases h : p x <;> simp <;> omega
theorem lfStep_len (s : LF) (x : Int) (rs : List Rn) : (lfStep s (x, rs)).1.length + (lfStep s (x, rs)).2.length ≤ s.1.length + s.2.length + rs.length := by
  unfold lfStep
  dsimp only
  have h1 := setds_le x rs (s.2.filter fun y => rs.contains y.1)
  have h2 := part_len (fun y => rs.contains y.1) s.2
  rw [List.length_append, List.length_map]
  omega
theorem lfAt_nd (R : List Int) (rs : List (List Rn)) : ∀ i, kNd (lfAt R rs i).2 := by
  have step : ∀ (l : List (Int × List Rn)) (s : LF), kNd s.2 → kNd (l.foldl lfStep s).2 := fun l => by
    induction l with
    | nil => intro s h; exact h
    | cons x l ih => intro s h; exact ih _ (setds_nd x.2 (filter_nd h))
  intro i
  exact step _ _ .nil
theorem lfAt_len {R : List Int} {rs : List (List Rn)} {n : Nat} (h : ∀ r ∈ rs, r.length ≤ n) : ∀ i, (lfAt R rs i).1.length + (lfAt R rs i).2.length ≤ i * n := by
  intro i
  induction i with
  | zero => simp [lfAt]
  | succ i ih =>
    cases hz : (R.zip rs)[i]? with
    | none =>
      have : lfAt R rs (i + 1) = lfAt R rs i := by
        unfold lfAt
        have hl := List.getElem?_eq_none_iff.mp hz
        rw [List.take_of_length_le (by omega), List.take_of_length_le (by omega)]
      rw [this, Nat.add_mul]; omega
    | some z =>
      obtain ⟨x, y⟩ := z
      obtain ⟨h1, h2⟩ := List.getElem?_zip_eq_some.mp hz
      rw [lfAt_more (x := x) (y := y) h1 h2]
      have q1 := lfStep_len (lfAt R rs i) x y
      have q2 := h y (List.mem_of_getElem? h2)
      rw [Nat.add_mul, Nat.one_mul]
      omega
theorem runsZ_len (C : List Int) (z : Str) (l : List Str) (h : C.length = l.length) : (runsZ C z l).length ≤ C.length + 1 := by
  unfold runsZ lruns
  have q := lrAt_len C (l.map fun a => decide (a = z)) C.length
  unfold lrAt at q
  rw [List.take_of_length_le (by rw [List.length_zip]; omega)] at q
  generalize (C.zip (l.map fun a => decide (a = z))).foldl lrStep ([], none) = S at q ⊢
  obtain ⟨f, o⟩ := S
  cases o with
  | none => exact Nat.le_succ_of_le q
  | some a =>
    show (f ++ [(a, none)]).length ≤ _
    rw [List.length_append]
    exact Nat.succ_le_succ q
theorem eqStr (a b : Str) : decide (V.str a = V.str b) = decide (a = b) := by
  by_cases c : a = b
  · rw [c, decide_eq_true rfl, decide_eq_true rfl]
  · rw [decide_eq_false c, decide_eq_false fun q => c (V.str.inj q)]
def sp_law_form : Sp := fun vs H Q _ => ∃ G v u g z R C ls, vs = [v, u, g, .str z] ∧ Ex G H ∧ IsL IsI G v R ∧ IsL IsI G u C ∧ IsL (IsL IsS) G g ls ∧ R.length = ls.length ∧ R.length ≤ 1000 ∧ C.length ≤ 1000 ∧ (∀ l ∈ ls, C.length = l.length) ∧
  (∀ x ∈ lfRaw (lfAt R (ls.map (runsZ C z)) R.length), ∀ y ∈ lfRaw (lfAt R (ls.map (runsZ C z)) R.length), bkey x = bkey y → x = y) ∧
  ∀ G1 H1 r, St G H G1 H1 → IsL IsTB G1 r (lform R (ls.map (runsZ C z))) → Q r H1
theorem sc__law_form : FnScope ["_law_rows", "_law_columns", "_law_grid_here", "_law_value_here", "_law_found", "_law_begun", "_law_row", "_law_line", "_law_runs_here", "_law_run", "_law_one"] ["_law_rows", "_law_columns", "_law_grid_here", "_law_value_here"] (defScope s__law_form) := ⟨rfl, rfl, rfl, by decide +kernel, rfl, by decide +kernel, by decide +kernel⟩
theorem ok__law_form (T : TX K mg) : FnOk P w K mg base CX0 2 (f__law_form K) (fdO K (f__law_form K)) ["_law_rows", "_law_columns", "_law_grid_here", "_law_value_here"] sp_law_form := by
  refine (F__law_form T).ok sc__law_form (fun vs H Q E h => ?_) (fun cdv A outer s H vs Q E hr h => ?_)
  · obtain ⟨_, _, _, _, _, _, _, _, rfl, _⟩ := h; rfl
  · obtain ⟨G0, v, u, g, z, R, C, ls, rfl, e, hR, hC, hL, hl, z1, z2, hls, one, k⟩ := h
    refine ⟨_, PSs.nox (pss_cons (ps_set (i := 4) sc__law_form.nd rfl (by first | exact Or.inl rfl | exact Or.inr rfl) (pe_lst pa_nil))
      (pss_cons (ps_set (i := 5) sc__law_form.nd rfl (by first | exact Or.inl rfl | exact Or.inr rfl) pe_dnewX)
      (pss_cons (ps_for PassesOwn.never rfl (pi_zip (by rfl) (z_zip T) (pa_cons (pv 0) (pa_cons (pv 2) pa_nil))) (pg_tup (by rfl) (pgs_cons (pg_name (i := 6) sc__law_form.nd rfl (by first | exact Or.inl rfl | exact Or.inr rfl)) (pgs_cons (pg_name (i := 7) sc__law_form.nd rfl (by first | exact Or.inl rfl | exact Or.inr rfl)) pgs_nil))) (pss_cons (ps_set (i := 8) sc__law_form.nd rfl (by first | exact Or.inl rfl | exact Or.inr rfl) (pe_call (ok__law_runs T) (hr.mono (by decide)) (by rfl) (g__law_runs T) (F__law_runs T).kp (b__law_runs T) .nil pass0 (pa_cons (pv 1) (pa_cons (pe_lc (own := [("_law_one", 10)]) (g := gName 10) (by rfl) sc__law_form.nd (pi_list (pv 7)) (blkOk_by (own := [("_law_one", 10)]) (N := ["_law_rows", "_law_columns", "_law_grid_here", "_law_value_here", "_law_found", "_law_begun", "_law_row", "_law_line", "_law_runs_here", "_law_run", "_law_one"]) (sc := defScope s__law_form) (by decide +kernel)) (fun _ _ _ _ _ => (pg_name (i := 10) sc__law_form.nd rfl (by first | exact Or.inl rfl | exact Or.inr rfl))) (fun _ _ _ _ _ => pts_nil) (fun _ _ _ _ _ => (pe_cmpR op_eq (pv 10) (pv 3) (nomark _)))) pa_nil))))
      (pss_cons (ps_for PassesOwn.never rfl (pi_list (pe_callTy (cr_listX rfl) (by rfl) (z_list T) (by decide +kernel) (pa_cons (pv 5) pa_nil))) (pg_name (i := 9) sc__law_form.nd rfl (by first | exact Or.inl rfl | exact Or.inr rfl)) (pss_one (ps_if (pt_cmpR (op_notInD (lt65 hr)) (pv 9) (pv 8) (by rfl)) (pss_one (ps_expr (pe_bm PySem.F.plainAttrs_list PySem.F.slot_list_append PySem.F.type_list_append mt_append (pv 4) (pa_cons (pe_tup (pa_cons (pe_bmX PySem.F.slot_dict_pop PySem.F.type_dict_pop (mt_popX hr) (pv 5) (pa_cons (pv 9) pa_nil)) (pa_cons (pe_ix (ixTK (K := K) (by rfl)) (pv 9) pe_int (fun _ _ => rfl)) (pa_cons (pe_op op_sub (pv 6) pe_int) (pa_cons (pe_ix (ixTK (K := K) (by rfl)) (pv 9) pe_int (fun _ _ => rfl)) pa_nil))))) pa_nil)))) pss_nil)))
      (pss_one (ps_for PassesOwn.never rfl (pi_list (pv 8)) (pg_name (i := 9) sc__law_form.nd rfl (by first | exact Or.inl rfl | exact Or.inr rfl)) (pss_one (ps_expr (pe_bmX PySem.F.slot_dict_setdefault PySem.F.type_dict_setdefault (mt_setdX hr) (pv 5) (pa_cons (pv 9) (pa_cons (pv 6) pa_nil))))))))))
      (pss_cons (ps_lock (ps_for PassesOwn.never rfl (pi_keysX (pv 5)) (pg_name (i := 9) sc__law_form.nd rfl (by first | exact Or.inl rfl | exact Or.inr rfl)) (pss_one (ps_expr (pe_bm PySem.F.plainAttrs_list PySem.F.slot_list_append PySem.F.type_list_append mt_append (pv 4) (pa_cons (pe_tup (pa_cons (pe_ix (ix_X hr) (pv 5) (pv 9) (fun _ _ => rfl)) (pa_cons (pe_ix (ixTK (K := K) (by rfl)) (pv 9) pe_int (fun _ _ => rfl)) (pa_cons pe_non (pa_cons (pe_ix (ixTK (K := K) (by rfl)) (pv 9) pe_int (fun _ _ => rfl)) pa_nil))))) pa_nil))))))
      (pss_one (ps_ret (pe_callB (cr_sortQ (K := K) rfl) (by rfl) (z_sorted T) (by decide +kernel) (pa_cons (pv 4) pa_nil)))))))), ?_⟩
    walk_at "go"
    refine lstM e (Nat.zero_le _) fun pf H1 hpf s1 m1 => ?_
    walk_at "go"
    refine dnewX s1.i fun d H2 hd s2 m2 => ?_
    have m1' := s2.mu m1
    have hne : pf ≠ d := fun c => by have q := m1.1; rw [c, hd] at q; cases q
    walk_at "go"
    have hbig : 1002001 < sizeLine := by decide
    have hrl : ∀ r ∈ ls.map (runsZ C z), r.length ≤ 1001 := fun r hr => by
      obtain ⟨l, hl', rfl⟩ := List.mem_map.mp hr
      have := runsZ_len C z l (hls l hl')
      omega
    have hlt : ∀ i, i ≤ 1000 → (lfAt R (ls.map (runsZ C z)) i).1.length + (lfAt R (ls.map (runsZ C z)) i).2.length ≤ 1001000 := fun i hi => by
      have := lfAt_len (R := R) hrl i
      have : i * 1001 ≤ 1000 * 1001 := Nat.mul_le_mul_right _ hi
      omega
    refine zipG IsI.mono (IsL.mono IsS.mono) hR hL hl s2.i (fun i σ' G' H' => ∃ o6 o7 o8 o9 o10 acc, σ' = [some v, some u, some g, some (.str z), some (.ref pf), some (.ref d), o6, o7, o8, o9, o10] ∧ Stm [pf, d] G0 H2 G' H' ∧ Mu G' H' pf (.lst acc) ∧ Paired (IsTB G') acc (lfAt R (ls.map (runsZ C z)) i).1 ∧ MuX P w G' H' d (lfAt R (ls.map (runsZ C z)) i).2)
      ⟨none, none, none, none, none, [], rfl, Stm.refl s2.i, m1', .nil, m2⟩ (fun i σ' G' H' _ ⟨_, _, _, _, _, _, _, s, _⟩ => ⟨s.g, s.i⟩) ?_ ?_
    · rintro i x l w1 w2 Tt σ1 G3 H3 G4 H4 D2 hx hy ⟨o6, o7, o8, o9, o10, acc, rfl, sA, mF, pF, mD⟩ s4 hw1 hw2 hT hnx
      cases hw1
      have hil : i < R.length := (List.getElem?_eq_some_iff.mp hx).1
      have hlm : l ∈ ls := List.mem_of_getElem? hy
      have more := lfAt_more hx (show (ls.map (runsZ C z))[i]? = some (runsZ C z l) by rw [List.getElem?_map, hy]; rfl)
      have hcnt := hlt (i + 1) (by omega)
      have hcnt0 := hlt i (by omega)
      have hnd := lfAt_nd R (ls.map (runsZ C z)) i
      rw [more] at hcnt hnx
      have mF4 := s4.mu mF
      have pF4 := paired_imp (fun a b q => IsTB.mono _ _ a b s4.g q) pF
      have mD4 := mD.st s4
      have sA4 : Stm [pf, d] G0 H2 G4 H4 := sA.trans (s4.sub (by simp))
      revert hcnt hcnt0 hnd hnx pF4 mD4
      clear pF mD more
      generalize lfAt R (ls.map (runsZ C z)) i = S
      obtain ⟨F, B⟩ := S
      intro hnx hcnt hcnt0 hnd pF4 mD4
      refine x_gtup (s4.i _ _ hT) rfl ?_
      walk_at "go"
      have hll : l.length ≤ 1000 := by rw [← hls l hlm]; exact z2
      refine lcG (R := IsS) (S := IsB) IsS.mono IsB.mono (fun _ => true) (fun a => decide (a = z)) s4.i hw2 (by omega) (fun a wa G5 H5 N0 N1 _ s5 ha n0 n1 => ?_) fun G5 H5 D5 s5 hD5 => ?_
      · cases ha
        walk_at "go"
        refine ⟨rfl, ?_⟩
        walk_at "go"
        rw [eqStr]
        exact n1 _ _ _ (Stm.refl s5.i) rfl rfl
      have ef : (l.filter fun _ => true) = l := List.filter_eq_self.mpr fun _ _ => rfl
      rw [ef] at hD5
      walk_at "go"
      refine ⟨G5, u, .ref D5, C, l.map fun a => decide (a = z), rfl, s5.i, IsL.mono IsI.mono _ _ _ _ (((s1.trans s2).g.trans sA4.g).trans s5.g) hC, hD5, by rw [List.length_map]; exact hls l hlm, z2, fun G6 H6 r6 s6 h6 => ?_⟩
      have h6 : IsL IsRn G6 r6 (runsZ C z l) := h6
      walk_at "go"
      generalize runsZ C z l = rs at hcnt hnx h6
      have s46 := s5.trans s6
      have mF6 := s46.mu mF4
      have pF6 := paired_imp (fun a b q => IsTB.mono _ _ a b s46.g q) pF4
      refine listX (mD4.st s46) s6.i fun G7 H7 p7 s7 h7 => ?_
      walk_at "go"
      have mD7 := (mD4.st s46).st s7
      have mF7 := s7.mu mF6
      have pF7 := paired_imp (fun a b q => IsTB.mono _ _ a b s7.g q) pF6
      have h67 := IsL.mono IsRn.mono _ _ _ _ s7.g h6
      refine forG IsRn.mono h7 s7.i (fun j σ' G' H' => ∃ o9 acc, σ' = [some v, some u, some g, some (.str z), some (.ref pf), some (.ref d), some (.int x), some w2, some r6, o9, o10] ∧ Stm [pf, d] G7 H7 G' H' ∧ Mu G' H' pf (.lst acc) ∧ Paired (IsTB G') acc (F ++ ((B.take j).filter (fun y => !rs.contains y.1)).map (mkB (some (x - 1)))) ∧ MuX P w G' H' d ((B.take j).filter (fun y => rs.contains y.1) ++ B.drop j))
        ⟨_, acc, rfl, Stm.refl s7.i, mF7, by simpa using pF7, by simpa using mD7⟩ (fun i σ' G' H' _ ⟨_, _, _, s, _⟩ => ⟨s.g, s.i⟩) ?_ ?_
      · rintro j r wr σ1 G8 H8 hj ⟨o9, acc, rfl, sB, mF8, pF8, mD8⟩ hwr
        obtain ⟨⟨r', t⟩, hjB, rfl⟩ := Option.map_eq_some_iff.mp (by rw [← List.getElem?_map]; exact hj)
        have hjl : j < B.length := (List.getElem?_eq_some_iff.mp hjB).1
        have hxB : (r', t) ∈ B := List.mem_of_getElem? hjB
        have hdj : B.drop j = (r', t) :: B.drop (j + 1) := by rw [List.drop_eq_getElem_cons hjl, (List.getElem?_eq_some_iff.mp hjB).2]
        have hwr : IsRn G8 wr r' := hwr
        walk_at "go"
        refine notInRn hwr (IsL.mono IsRn.mono _ _ _ _ sB.g h67) sB.i ⟨_, rfl, ite_b2 (fun h1 => ?_) (fun h1 => ?_)⟩
        · have hke : rs.contains r' = false := by simpa using h1
          walk_at "go"
          refine ⟨x_tyL mF8, ?_⟩
          walk_at "go"
          refine ⟨tyX mD8, ?_⟩
          walk_at "go"
          have hndB : kNd ((B.take j).filter (fun y => rs.contains y.1) ++ B.drop j) := by
            refine List.Nodup.sublist (List.Sublist.map _ ?_) hnd
            have := List.Sublist.append (List.filter_sublist (p := fun y : Rn × Int => rs.contains y.1) (l := B.take j)) (List.Sublist.refl (B.drop j))
            rw [List.take_append_drop] at this
            exact this
          refine popGV (t := t) mD8 sB.i hwr hndB (List.mem_append_right _ (by rw [hdj]; simp)) fun H9 s9 m9 => ?_
          rw [drop_mid hnd hjB] at m9
          walk_at "go"
          refine x_ixT0 hwr s9.i fun wa hwa => ?_
          cases hwa
          walk_at "go"
          refine x_ixT1 hwr s9.i fun wb hwb => ?_
          cases hwb
          walk_at "go"
          refine tupI s9.i (by show 4 ≤ 1000; decide) fun pt G10 H10 s10 ht10 => ?_
          walk_at "go"
          have hacc : acc.length < sizeLine := by
            rw [paired_len pF8, List.length_append, List.length_map]
            have q1 := List.length_filter_le (fun y : Rn × Int => !rs.contains y.1) (List.take j B)
            have q2 : (List.take j B).length ≤ B.length := by rw [List.length_take]; exact Nat.min_le_right _ _
            simp only at hcnt0
            omega
          have mF9 := s9.m _ _ (fun q => hne (List.mem_singleton.mp q)) mF8
          refine x_app (s10.mu mF9) s10.i hacc fun H11 s11 m11 => ?_
          walk_at "go"
          refine ⟨G10, _, _, rfl, (sB.trans (s9.sub (by simp))).trans ((s10.sub (by simp)).trans (s11.sub (by simp))), m11, ?_, ?_⟩
          · rw [gone_take hjB, if_pos (by show (!rs.contains r') = true; rw [hke]; rfl), List.map_append, ← List.append_assoc]
            exact paired_snoc ⟨pt, rfl, ht10⟩ (paired_imp (fun a b q => IsTB.mono _ _ a b (s9.g.trans s10.g) q) pF8)
          · rw [gone_take hjB, if_neg (by show ¬ rs.contains r' = true; rw [hke]; exact Bool.false_ne_true), List.append_nil]
            exact (m9.st s10).to s11 (fun q => hne (List.mem_singleton.mp q).symm)
        · have hke : rs.contains r' = true := by simpa using h1
          walk_at "go"
          refine ⟨G8, _, _, rfl, sB, mF8, ?_, ?_⟩
          · rw [gone_take hjB, if_neg (by show ¬ (!rs.contains r') = true; rw [hke]; decide), List.append_nil]
            exact pF8
          · rw [gone_take hjB, if_pos (show rs.contains r' = true from hke), List.append_assoc, List.singleton_append, ← hdj]
            exact mD8
      · rintro σ' G8 H8 ⟨o9, acc, rfl, sB, mF8, pF8, mD8⟩
        rw [List.length_map, List.take_length] at pF8 mD8
        rw [List.drop_length, List.append_nil] at mD8
        walk_at "go"
        have h68 := IsL.mono IsRn.mono _ _ _ _ sB.g h67
        refine forG IsRn.mono h68 sB.i (fun j σ' G' H' => ∃ o9, σ' = [some v, some u, some g, some (.str z), some (.ref pf), some (.ref d), some (.int x), some w2, some r6, o9, o10] ∧ Stm [pf, d] G8 H8 G' H' ∧ Mu G' H' pf (.lst acc) ∧ MuX P w G' H' d ((rs.take j).foldl (setd x) (B.filter fun y => rs.contains y.1)))
          ⟨o9, rfl, Stm.refl sB.i, mF8, mD8⟩ (fun i σ' G' H' _ ⟨_, _, s, _⟩ => ⟨s.g, s.i⟩) ?_ ?_
        · rintro j r wr σ1 G9 H9 hj ⟨o9, rfl, sC, mF9, mD9⟩ hwr
          have hjm := fold_more (f := setd x) (b := B.filter fun y => rs.contains y.1) hj
          walk_at "go"
          refine ⟨tyX mD9, ?_⟩
          walk_at "go"
          have hbl : ((rs.take j).foldl (setd x) (B.filter fun y => rs.contains y.1)).length < sizeLine := by
            have q1 := setds_part x rs (B.filter fun y => rs.contains y.1) j
            have q2 : (rs.foldl (setd x) (B.filter fun y => rs.contains y.1)).length ≤ 1001000 := Nat.le_trans (Nat.le_add_left _ _) hcnt
            omega
          refine setdG mD9 sC.i hwr hbl fun H10 u10 s10 m10 => ?_
          walk_at "go"
          refine ⟨G9, _, rfl, sC.trans (s10.sub (by simp)), s10.m _ _ (fun q => hne (List.mem_singleton.mp q)) mF9, ?_⟩
          rw [hjm]; exact m10
        · rintro σ' G9 H9 ⟨o9, rfl, sC, mF9, mD9⟩
          rw [List.take_length] at mD9
          walk_at "go"
          exact hnx _ G9 H9 ⟨_, _, _, _, _, acc, rfl, (sA4.trans (St.up (s46.trans s7))).trans (sB.trans sC), mF9, paired_imp (fun a b q => IsTB.mono _ _ a b sC.g q) pF8, mD9⟩
    · rintro σ' G3 H3 ⟨o6, o7, o8, o9, o10, acc, rfl, sA, mF, pF, mD⟩
      have hcnt0 := hlt R.length z1
      have hnd := lfAt_nd R (ls.map (runsZ C z)) R.length
      have ek : lform R (ls.map (runsZ C z)) = sortB (lfRaw (lfAt R (ls.map (runsZ C z)) R.length)) := by
        unfold lform lfAt
        rw [List.take_of_length_le (by rw [List.length_zip, List.length_map]; omega)]
      rw [ek] at k
      revert hcnt0 hnd k one pF mD
      generalize lfAt R (ls.map (runsZ C z)) R.length = S
      obtain ⟨F, B⟩ := S
      intro one k pF mD hcnt0 hnd
      walk_at "go"
      refine forKX (fun H' R h => ⟨_, rfl, h⟩) mD sA.i (fun od xs j σ' G' H' => ∃ o9 acc, σ' = [some v, some u, some g, some (.str z), some (.ref pf), some (.ref d), o6, o7, o8, o9, o10] ∧ Stm [pf, d] G0 H2 G' H' ∧ Mu G' H' pf (.lst acc) ∧ Mu G' H' d (.frz od (dxO P w d xs)) ∧ Paired (IsTB G') acc (F ++ (B.take j).map (mkB none)) ∧ Ex G3 G')
        (fun od xs H4 s4 m4 hx => ⟨o9, acc, rfl, sA.trans (s4.sub (by simp)), s4.m _ _ (fun q => hne (List.mem_singleton.mp q)) mF, m4, by simpa using pF, Ex.refl _⟩)
        (fun od xs j σ' G' H' _ hx ⟨_, _, _, s, _, m, _, ex⟩ => ⟨ex, s.i, m⟩) ?_ ?_
      · rintro od xs j ⟨r, t⟩ wr σ1 G4 H4 D2 hj hxs ⟨o9, acc, rfl, sB, mF4, mD4, pF4, ex⟩ hwr hnx
        have hjl : j < B.length := (List.getElem?_eq_some_iff.mp hj).1
        walk_at "go"
        refine ⟨x_tyL mF4, ?_⟩
        walk_at "go"
        refine ixX mD4 (hxs.mono ex) sB.i hwr hnd (List.mem_of_getElem? hj) ?_
        walk_at "go"
        refine x_ixT0 hwr sB.i fun wa hwa => ?_
        cases hwa
        walk_at "go"
        refine x_ixT1 hwr sB.i fun wb hwb => ?_
        cases hwb
        walk_at "go"
        refine tupI sB.i (by show 4 ≤ 1000; decide) fun pt G5 H5 s5 ht5 => ?_
        walk_at "go"
        have hacc : acc.length < sizeLine := by
          rw [paired_len pF4, List.length_append, List.length_map, List.length_take]
          simp only at hcnt0
          omega
        refine x_app (s5.mu mF4) s5.i hacc fun H6 s6 m6 => ?_
        walk_at "go"
        refine hnx _ G5 H6 ⟨_, _, rfl, (sB.trans (s5.sub (by simp))).trans (s6.sub (by simp)), m6, s6.m _ _ (fun q => hne (List.mem_singleton.mp q).symm) (s5.mu mD4), ?_, ex.trans s5.g⟩
        rw [take_more hj, List.map_append, ← List.append_assoc]
        exact paired_snoc ⟨pt, rfl, ht5⟩ (paired_imp (fun a b q => IsTB.mono _ _ a b s5.g q) pF4)
      · rintro od xs σ' G4 H4 H5 ⟨o9, acc, rfl, sB, mF4, mD4, pF4, ex⟩ s5 m5 hxs
        rw [List.take_length] at pF4
        have mF5 := s5.m _ _ (fun q => hne (List.mem_singleton.mp q)) mF4
        have sC : Stm [pf, d] G0 H2 G4 H5 := sB.trans (s5.sub (by simp))
        obtain ⟨s6, g6⟩ := freeze mF5 sC.i
        walk_at "go"
        have st : St G0 H (upd G4 pf (.lst acc)) H5 := by
          refine Stm.fresh (Stm.refl e) (A := [pf, d]) ((St.up (s1.trans s2)).trans (sC.trans (s6.sub (by simp)))) fun a ha => ?_
          rcases List.mem_cons.mp ha with rfl | ha
          · exact hpf
          · rw [List.mem_singleton.mp ha]
            exact s1.none hd fun z => nomatch z
        refine sortQ (K := K) ⟨pf, acc, rfl, g6, paired_imp (fun a b q => IsTB.mono _ _ a b s6.g q) pF4⟩ st.i one fun G7 H7 p7 s7 h7 => ?_
        exact k G7 H7 _ (st.trans s7) h7
end
end GT

/-! ## LF -/
set_option Elab.async false
set_option linter.all false
set_option maxRecDepth 100000
set_option maxHeartbeats 1000000
namespace GT
open PySem PySem.Spec PyProof.Rows L2 G
local macro_rules | `(tactic| walk_at "ex") => `(tactic| first | exact Ex.refl _ | assumption | exact Stm.g (by assumption) | (refine Ex.trans ?_ (Stm.g (by assumption)); walk_at "ex"))
local macro_rules | `(tactic| walk_at "st") => `(tactic| first | exact Stm.refl (by assumption) | assumption | (refine Stm.trans ?_ (by assumption); walk_at "st"))
local macro_rules | `(tactic| walk_at "i") => `(tactic| first | assumption | exact Stm.i (by assumption))
local macro_rules | `(tactic| walk_at "fact") => `(tactic| first | rfl | exact (rfl : V.non = optV none) | exact (rfl : V.int _ = optV (some _)) | assumption)
local macro_rules | `(tactic| walk_at "g") => `(tactic| first
  | with_reducible refine x_seq ?_
  | with_reducible refine x_next ?_
  | with_reducible refine x_asg ?_
  | with_reducible refine x_ret ?_
  | with_reducible refine x_retN ?_
  | with_reducible refine x_drop ?_
  | with_reducible refine x_ifs ?_
  | ((with_reducible refine' x_var ?hv ?_); (case hv => exact rfl))
  | with_reducible refine x_c ?_
  | with_reducible refine x_op ?_
  | with_reducible refine x_un ?_
  | with_reducible refine x_test ?_
  | with_reducible refine x_B ?_
  | with_reducible refine x_bl ?_
  | with_reducible refine x_and ?_
  | with_reducible refine x_or ?_
  | with_reducible refine x_not ?_
  | with_reducible refine x_andV ?_
  | with_reducible refine x_orV ?_
  | with_reducible refine x_notV ?_
  | with_reducible refine x_ife ?_
  | with_reducible refine x_isN ?_
  | with_reducible refine x_notN ?_
  | with_reducible refine x_nil ?_
  | with_reducible refine x_cons ?_
  | with_reducible refine x_cb ?_
  | with_reducible refine x_call ?_
  | ((with_reducible refine' x_callL ?hv ?_); (case hv => exact rfl))
  | ((with_reducible refine' x_gnameN ?hv ?_); (case hv => (simp only [L2.start, List.map_cons, List.map_nil, List.length_cons, List.length_nil, List.replicate_succ, List.replicate_zero, List.cons_append, List.nil_append, List.set_cons_zero, List.set_cons_succ, Nat.reduceAdd, Nat.reduceSub, Nat.add_one_sub_one]; exact rfl)))
  | with_reducible refine x_gname ?_
  | with_reducible refine x_I0 ?_
  | ((with_reducible refine' x_eq ?hv ?_); (case hv => exact rfl))
  | ((with_reducible refine' x_ne ?hv ?_); (case hv => exact rfl))
  | with_reducible refine x_tupG ?_
  | with_reducible refine x_lstG ?_
  | with_reducible refine x_lc ?_
  | (with_reducible refine x_U ?_)
  | ((with_reducible refine' ite_T ?hv ?_); (case hv => exact rfl))
  | ((with_reducible refine' ite_F ?hv ?_); (case hv => exact rfl))
  | with_reducible refine x_for ?_
  | with_reducible refine x_iEnum ?_
  | with_reducible refine x_iRng1 ?_
  | with_reducible refine x_iList ?_
  | with_reducible refine x_iTup ?_
  | with_reducible refine x_gcons ?_
  | with_reducible refine x_gnil ?_
  | with_reducible refine x_bm ?_
  | with_reducible refine x_fldG ?_
  | with_reducible refine x_meth ?_
  | with_reducible refine x_sl ?_
  | with_reducible refine x_nopart ?_
  | with_reducible refine x_part ?_
  | with_reducible refine x_int ?_
  | with_reducible refine x_yes ?_
  | with_reducible refine x_isNG ?_
  | with_reducible refine x_notNG ?_
  | fail "no step")
local macro_rules | `(tactic| walk_at "g2") => `(tactic| first
  | with_reducible refine x_sfld ?_
  | with_reducible refine x_make ?_
  | with_reducible refine x_dnew ?_
  | with_reducible refine x_lcT ?_
  | with_reducible refine x_lcS ?_
  | with_reducible refine x_disp ?_
  | with_reducible refine x_pcons ?_
  | with_reducible refine x_pnil ?_
  | with_reducible refine x_dnewK ?_
  | with_reducible refine x_dput ?_
  | with_reducible refine x_gsub ?_
  | with_reducible refine x_dget2 ?_
  | with_reducible refine x_litems ?_
  | with_reducible refine x_bmX ?_
  | with_reducible refine x_ckw ?_
  | with_reducible refine L2Z.x_methS ?_
  | with_reducible refine L2Z.x_methN ?_
  | with_reducible refine x_callSD ?_
  | with_reducible refine x_lcZ ?_
  | with_reducible refine x_iZip ?_
  | with_reducible refine x_dget ?_
  | with_reducible refine x_revL ?_
  | walk_at "g")
local macro_rules | `(tactic| walk_at "go") => `(tactic| repeat' walk_at "g2")

section
variable {P : Program} {w : World} {K : PySem.W.Frag} {mg : Str → Option Value} {base : Heap}
def sp_law_block_told (K : PySem.W.Frag) : Sp := fun vs H Q _ => ∃ G v b, vs = [v] ∧ Ex G H ∧ IsBlk K G v b ∧ ∀ G1 H1 r, St G H G1 H1 → IsTB G1 r b → Q r H1
theorem sc__law_block_told : FnScope ["_law_block_here"] ["_law_block_here"] (defScope s__law_block_told) := ⟨rfl, rfl, rfl, by decide +kernel, rfl, by decide +kernel, by decide +kernel⟩
theorem ok__law_block_told (T : TX K mg) : FnOk P w K mg base CX0 1 (f__law_block_told K) (fdO K (f__law_block_told K)) ["_law_block_here"] (sp_law_block_told K) := by
  refine (F__law_block_told T).ok sc__law_block_told (fun vs H Q E h => ?_) (fun cdv A outer s H vs Q E hr h => ?_)
  · obtain ⟨_, _, _, rfl, _⟩ := h; rfl
  · obtain ⟨G0, v, b, rfl, e, hb, k⟩ := h
    refine ⟨_, PSs.nox (pss_one (ps_ret (pe_tup (pa_cons (fldK (K := K) (pv 0) (by rfl) (by rfl)) (pa_cons (fldK (K := K) (pv 0) (by rfl) (by rfl)) (pa_cons (fldK (K := K) (pv 0) (by rfl) (by rfl)) (pa_cons (fldK (K := K) (pv 0) (by rfl) (by rfl)) pa_nil))))))), ?_⟩
    walk_at "go"
    refine fB_top T hb e ?_
    walk_at "go"
    refine fB_left T hb e ?_
    walk_at "go"
    refine fB_bottom T hb e ?_
    walk_at "go"
    refine fB_right T hb e ?_
    walk_at "go"
    exact tupI e (by show 4 ≤ 1000; decide) fun t G1 H1 s1 ht => k G1 H1 _ s1 ⟨t, rfl, ht⟩
def sp_law_grid : Sp := fun vs H Q _ => ∃ G v m, vs = [v] ∧ Ex G H ∧ IsMine G v m ∧ (∀ d ∈ m.ds, d.1.length ≤ 1000) ∧ m.R.length ≤ 1000 ∧ m.C.length ≤ 1000 ∧
  ∀ G1 H1 r, St G H G1 H1 → IsL (IsL IsS) G1 r (m.R.map fun x => m.C.map fun c => valF m.ds x c) → Q r H1
theorem sc__law_grid : FnScope ["_law_mine", "_law_row", "_law_column"] ["_law_mine"] (defScope s__law_grid) := ⟨rfl, rfl, rfl, by decide +kernel, rfl, by decide +kernel, by decide +kernel⟩
theorem ok__law_grid (T : TX K mg) : FnOk P w K mg base CX0 4 (f__law_grid K) (fdO K (f__law_grid K)) ["_law_mine"] sp_law_grid := by
  refine (F__law_grid T).ok sc__law_grid (fun vs H Q E h => ?_) (fun cdv A outer s H vs Q E hr h => ?_)
  · obtain ⟨_, _, _, rfl, _⟩ := h; rfl
  · obtain ⟨G0, v, m, rfl, e, ⟨p, dd, rr, cc, rfl, hm⟩, hd, z1, z2, k⟩ := h
    refine ⟨_, PSs.nox (pss_one (ps_ret (pe_lc (own := [("_law_row", 1)]) (g := gName 1) (by rfl) sc__law_grid.nd (pi_list (pe_dget (Nat.lt_of_le_of_lt (Nat.add_le_add_left (by decide : 1 ≤ 64) _) hr.units) (pv 0) pe_str (fun _ _ => rfl))) (blkOk_by (own := [("_law_row", 1)]) (N := ["_law_mine", "_law_row", "_law_column"]) (sc := defScope s__law_grid) (by decide +kernel)) (fun _ _ _ _ _ => (pg_name (i := 1) sc__law_grid.nd rfl (by first | exact Or.inl rfl | exact Or.inr rfl))) (fun _ _ _ _ _ => pts_nil) (fun _ _ _ _ _ => (pe_lc (own := [("_law_column", 2)]) (g := gName 2) (by rfl) sc__law_grid.nd (pi_listK (K := K) (by rfl) (pe_dget (Nat.lt_of_le_of_lt (Nat.add_le_add_left (by decide : 1 ≤ 64) _) hr.units) (pv 0) pe_str (fun _ _ => rfl))) (blkOk_by (own := [("_law_column", 2)]) (N := ["_law_mine", "_law_row", "_law_column"]) (sc := { kind := ScopeKind.function, names := [(Str.ofString ".0", NameKind.local), (Str.ofString "_law_row", NameKind.cell), (Str.ofString "_law_mine", NameKind.cell)], isGenerator := false, isCoroutine := false }) (by decide +kernel)) (fun _ _ _ _ _ => (pg_name (i := 2) sc__law_grid.nd rfl (by first | exact Or.inl rfl | exact Or.inr rfl))) (fun _ _ _ _ _ => pts_nil) (fun _ _ _ _ _ => (pe_call (ok__law_value T) (hr.mono (by decide)) (by rfl) (g__law_value T) (F__law_value T).kp (b__law_value T) .nil pass0 (pa_cons (pe_dget (Nat.lt_of_le_of_lt (Nat.add_le_add_left (by decide : 1 ≤ 64) _) hr.units) (pv 0) pe_str (fun _ _ => rfl)) (pa_cons (pe_tup (pa_cons (pv 1) (pa_cons (pv 2) pa_nil))) pa_nil))))))))), ?_⟩
    walk_at "go"
    have ef : ∀ l : List Int, (l.filter fun _ => true) = l := fun l => List.filter_eq_self.mpr fun _ _ => rfl
    refine dgetF (e _ _ hm.o) (mine_rows dd rr cc) ?_
    refine lcG (R := IsI) (S := IsL IsS) IsI.mono (IsL.mono IsS.mono) (fun _ => true) (fun x => m.C.map fun c => valF m.ds x c) e hm.R (Nat.lt_of_le_of_lt z1 (by decide)) (fun x wx G1 H1 N0 N1 _ s1 hx n0 n1 => ?_) fun G1 H1 D1 s1 hD1 => ?_
    · cases hx
      walk_at "go"
      refine ⟨rfl, ?_⟩
      walk_at "go"
      refine dgetF (s1.i _ _ (s1.g _ _ hm.o)) (mine_cols dd rr cc) ?_
      refine lcG (R := IsI) (S := IsS) IsI.mono IsS.mono (fun _ => true) (fun c => valF m.ds x c) s1.i (IsL.mono IsI.mono _ _ _ _ s1.g hm.C) (Nat.lt_of_le_of_lt z2 (by decide)) (fun c wc G2 H2 M0 M1 _ s2 hc m0 m1 => ?_) fun G2 H2 D2 s2 hD2 => ?_
      · cases hc
        walk_at "go"
        refine ⟨rfl, ?_⟩
        walk_at "go"
        have a2 := s1.trans s2
        refine dgetF (a2.i _ _ (a2.g _ _ hm.o)) (mine_deeds dd rr cc) ?_
        walk_at "go"
        refine tupI s2.i (by show 2 ≤ 1000; decide) fun t G3 H3 s3 ht => ?_
        walk_at "go"
        exact ⟨G3, dd, .ref t, m.ds, (x, c), rfl, s3.i, IsL.mono IsFill.mono _ _ _ _ (a2.g.trans s3.g) hm.ds, hd, ⟨t, _, _, rfl, ht, rfl, rfl⟩, fun G4 H4 s4 => m1 _ _ _ (s3.trans s4) rfl rfl⟩
      · rw [ef] at hD2
        exact n1 _ _ _ s2 hD2 rfl
    · rw [ef] at hD1
      walk_at "go"
      exact k _ _ _ s1 hD1
theorem cut2 {K : PySem.W.Frag} {G H : Hp} {v : V} {b : Blk} {Q : VK} (hx : IsTB G v b) (e : Ex G H) (h : ∀ G1 H1 r, St G H G1 H1 → IsII G1 r (b.t, b.l) → Q r H1) : rSlT K v none (some 2) H Q := by
  obtain ⟨t, rfl, ht⟩ := hx
  refine ⟨t, _, rfl, sqt (e _ _ ht), by show ¬ (HT.sIx 4 0 none = 0 ∧ HT.sIx 4 4 (some 2) = 4); decide, fun p hp => ?_⟩
  obtain ⟨s, g⟩ := alF (o := .tup [.int b.t, .int b.l]) hp e
  exact h _ _ _ s ⟨p, _, _, rfl, g, rfl, rfl⟩
theorem few {ps : List (Blk × Str)} (h : (ps.map pk).Nodup) (c : Int × Int) : (ps.filter fun p => decide (pk p = c)).length ≤ 1 := by
  have q := List.nodup_iff_count.mp h c
  rw [List.count, List.countP_map] at q
  rw [← List.countP_eq_length_filter]
  refine Nat.le_trans (Nat.le_of_eq ?_) q
  congr 1
  funext p
  show decide (pk p = c) = (pk p == c)
  by_cases e : pk p = c
  · rw [decide_eq_true e, e]; simp
  · rw [decide_eq_false e]; simp [e]
theorem lorder_le {ps : List (Blk × Str)} (h : (ps.map pk).Nodup) : ∀ cells : List (Int × Int), (lorder ps cells).length ≤ cells.length
  | [] => Nat.le_refl _
  | c :: cells => by
    have ih := lorder_le h cells
    have f := few h c
    unfold lorder at ih ⊢
    rw [List.flatMap_cons, List.length_append, List.length_cons]
    omega
def sp_law_in_order : Sp := fun vs H Q _ => ∃ G v ps, vs = [v] ∧ Ex G H ∧ IsL IsTP G v ps ∧ ps.length ≤ 100000 ∧ (ps.map pk).Nodup ∧ ∀ G1 H1 r cells, St G H G1 H1 → cells.Perm (ps.map pk) → cells.Pairwise lexLe → IsL IsTP G1 r (lorder ps cells) → Q r H1
theorem sc__law_in_order : FnScope ["_law_pairs", "_law_cells", "_law_found", "_law_cell", "_law_pair"] ["_law_pairs"] (defScope s__law_in_order) := ⟨rfl, rfl, rfl, by decide +kernel, rfl, by decide +kernel, by decide +kernel⟩
theorem ok__law_in_order (T : TX K mg) : FnOk P w K mg base CX0 1 (f__law_in_order K) (fdO K (f__law_in_order K)) ["_law_pairs"] sp_law_in_order := by
  refine (F__law_in_order T).ok sc__law_in_order (fun vs H Q E h => ?_) (fun cdv A outer s H vs Q E hr h => ?_)
  · obtain ⟨_, _, _, rfl, _⟩ := h; rfl
  · obtain ⟨G0, v, ps, rfl, e, hp, hz, hnd, k⟩ := h
    refine ⟨_, PSs.nox (pss_cons (ps_set (i := 1) sc__law_in_order.nd rfl (by first | exact Or.inl rfl | exact Or.inr rfl) (pe_callB (cr_sortPK (K := K) rfl) (by rfl) (z_sorted T) (by decide +kernel) (pa_cons (pe_lc (own := [("_law_pair", 4)]) (g := gName 4) (by rfl) sc__law_in_order.nd (pi_list (pv 0)) (blkOk_by (own := [("_law_pair", 4)]) (N := ["_law_pairs", "_law_cells", "_law_found", "_law_cell", "_law_pair"]) (sc := defScope s__law_in_order) (by decide +kernel)) (fun _ _ _ _ _ => (pg_name (i := 4) sc__law_in_order.nd rfl (by first | exact Or.inl rfl | exact Or.inr rfl))) (fun _ _ _ _ _ => pts_nil) (fun _ _ _ _ _ => (pe_slice (sl_tupK (K := K) (by rfl)) (pe_ix (ixTK (K := K) (by rfl)) (pv 4) pe_int (fun _ _ => rfl)) po_none (po_some pe_int)))) pa_nil)))
      (pss_cons (ps_set (i := 2) sc__law_in_order.nd rfl (by first | exact Or.inl rfl | exact Or.inr rfl) (pe_lst pa_nil))
      (pss_cons (ps_for PassesOwn.never rfl (pi_list (pv 1)) (pg_name (i := 3) sc__law_in_order.nd rfl (by first | exact Or.inl rfl | exact Or.inr rfl)) (pss_one (ps_set (i := 2) sc__law_in_order.nd rfl (by first | exact Or.inl rfl | exact Or.inr rfl) (pe_op op_cat (pv 2) (pe_lc (own := [("_law_pair", 4)]) (g := gName 4) (by rfl) sc__law_in_order.nd (pi_list (pv 0)) (blkOk_by (own := [("_law_pair", 4)]) (N := ["_law_pairs", "_law_cells", "_law_found", "_law_cell", "_law_pair"]) (sc := defScope s__law_in_order) (by decide +kernel)) (fun _ _ _ _ _ => (pg_name (i := 4) sc__law_in_order.nd rfl (by first | exact Or.inl rfl | exact Or.inr rfl))) (fun _ _ _ _ _ => (pts_one (pt_cmpR (op_eqDK (K := K) (by rfl) hr.units) (pe_slice (sl_tupK (K := K) (by rfl)) (pe_ix (ixTK (K := K) (by rfl)) (pv 4) pe_int (fun _ _ => rfl)) po_none (po_some pe_int)) (pv 3) (nomark _)))) (fun _ _ _ _ _ => (pv 4)))))))
      (pss_one (ps_ret (pv 2)))))), ?_⟩
    have hz' : ps.length < sizeLine := Nat.lt_of_le_of_lt hz (by decide)
    walk_at "go"
    refine lcG (R := IsTP) (S := IsII) IsTP.mono IsII.mono (fun _ => true) pk e hp hz' (fun q wq G1 H1 N0 N1 _ s1 hq n0 n1 => ?_) fun G1 H1 D1 s1 hD1 => ?_
    · walk_at "go"
      refine ⟨rfl, ?_⟩
      walk_at "go"
      refine x_ixT0 hq s1.i fun w1 hw1 => ?_
      walk_at "go"
      exact cut2 hw1 s1.i fun G2 H2 r2 s2 h2 => n1 _ _ _ s2 h2 rfl
    have ef : (ps.filter fun _ => true) = ps := List.filter_eq_self.mpr fun _ _ => rfl
    rw [ef] at hD1
    walk_at "go"
    refine sortII hD1 s1.i fun G2 H2 p2 cells s2 pc sc hL => ?_
    walk_at "go"
    refine lstI s2.i (Nat.zero_le _) fun pf G3 H3 s3 g3 => ?_
    walk_at "go"
    have hcl : cells.length ≤ 100000 := by rw [pc.length_eq, List.length_map]; exact hz
    have a3 := (s1.trans s2).trans s3
    refine forG (K := K) (R := IsII) IsII.mono (IsL.mono IsII.mono _ _ _ _ s3.g hL) s3.i (fun i σ' G' H' => ∃ x o3 o4 o5, σ' = [some v, some (.ref p2), some x, o3, o4] ∧ o5 = o3 ∧ St G3 H3 G' H' ∧ IsL IsTP G' x (lorder ps (cells.take i)))
      ⟨.ref pf, none, none, none, rfl, rfl, Stm.refl s3.i, ⟨pf, _, rfl, g3, .nil⟩⟩ (fun i σ' G' H' _ ⟨_, _, _, _, _, _, s, _⟩ => ⟨s.g, s.i⟩) ?_ ?_
    · rintro i c wc σ1 G4 H4 hi ⟨x, o3, o4, _, rfl, _, s4, hx⟩ hwc
      walk_at "go"
      refine lcG (R := IsTP) (S := IsTP) IsTP.mono IsTP.mono (fun q => decide (pk q = c)) (fun q => q) s4.i (IsL.mono IsTP.mono _ _ _ _ (a3.g.trans s4.g) hp) hz' (fun q wq G5 H5 N0 N1 _ s5 hq n0 n1 => ?_) fun G5 H5 D5 s5 hD5 => ?_
      · walk_at "go"
        refine ⟨rfl, ?_⟩
        walk_at "go"
        refine x_ixT0 hq s5.i fun w1 hw1 => ?_
        walk_at "go"
        refine cut2 hw1 s5.i fun G6 H6 r6 s6 h6 => ?_
        walk_at "go"
        refine eqII s6.i (q := c) h6 (IsII.mono _ _ _ _ (s5.g.trans s6.g) hwc) ?_
        refine ⟨_, rfl, ite_b2 (fun h1 => ?_) (fun h1 => ?_)⟩
        · walk_at "go"
          exact n1 _ _ _ s6 (IsTP.mono _ _ _ _ s6.g hq) h1
        · exact n0 _ _ s6 h1
      · rw [List.map_id'] at hD5
        walk_at "go"
        have hlo := lorder_le hnd (cells.take i)
        have hf := few hnd c
        rw [List.length_take] at hlo
        refine catL IsTP.mono (IsL.mono IsTP.mono _ _ _ _ s5.g hx) hD5 s5.i ?_ fun p6 G6 H6 s6 h6 => ?_
        · exact Nat.le_trans (show _ ≤ 100001 by omega) (by decide)
        walk_at "go"
        refine ⟨G6, _, _, _, _, rfl, rfl, (s4.trans s5).trans s6, ?_⟩
        rw [take_more hi]
        unfold lorder at h6 ⊢
        rw [List.flatMap_append, List.flatMap_singleton]
        exact h6
    · rintro σ' G4 H4 ⟨x, o3, o4, _, rfl, _, s4, hx⟩
      rw [List.take_length] at hx
      walk_at "go"
      exact k _ _ _ cells (a3.trans s4) pc sc hx
end
end GT

/-! ## PW -/
set_option Elab.async false
set_option linter.all false
set_option maxRecDepth 100000
set_option maxHeartbeats 400000
namespace GT
open PySem PySem.Spec PyProof.Rows L2 G
local macro_rules | `(tactic| walk_at "ex") => `(tactic| first | exact Ex.refl _ | assumption | exact Stm.g (by assumption) | (refine Ex.trans ?_ (Stm.g (by assumption)); walk_at "ex"))
local macro_rules | `(tactic| walk_at "st") => `(tactic| first | exact Stm.refl (by assumption) | assumption | (refine Stm.trans ?_ (by assumption); walk_at "st"))
local macro_rules | `(tactic| walk_at "i") => `(tactic| first | assumption | exact Stm.i (by assumption))
local macro_rules | `(tactic| walk_at "fact") => `(tactic| first | rfl | exact (rfl : V.non = optV none) | exact (rfl : V.int _ = optV (some _)) | assumption)
local macro_rules | `(tactic| walk_at "g") => `(tactic| first
  | with_reducible refine x_seq ?_
  | with_reducible refine x_next ?_
  | with_reducible refine x_asg ?_
  | with_reducible refine x_ret ?_
  | with_reducible refine x_retN ?_
  | with_reducible refine x_drop ?_
  | with_reducible refine x_ifs ?_
  | ((with_reducible refine' x_var ?hv ?_); (case hv => exact rfl))
  | with_reducible refine x_c ?_
  | with_reducible refine x_op ?_
  | with_reducible refine x_un ?_
  | with_reducible refine x_test ?_
  | with_reducible refine x_B ?_
  | with_reducible refine x_bl ?_
  | with_reducible refine x_and ?_
  | with_reducible refine x_or ?_
  | with_reducible refine x_not ?_
  | with_reducible refine x_andV ?_
  | with_reducible refine x_orV ?_
  | with_reducible refine x_notV ?_
  | with_reducible refine x_ife ?_
  | with_reducible refine x_isN ?_
  | with_reducible refine x_notN ?_
  | with_reducible refine x_nil ?_
  | with_reducible refine x_cons ?_
  | with_reducible refine x_cb ?_
  | with_reducible refine x_call ?_
  | ((with_reducible refine' x_callL ?hv ?_); (case hv => exact rfl))
  | with_reducible refine x_gname ?_
  | with_reducible refine x_I0 ?_
  | ((with_reducible refine' x_eq ?hv ?_); (case hv => exact rfl))
  | ((with_reducible refine' x_ne ?hv ?_); (case hv => exact rfl))
  | with_reducible refine x_tupG ?_
  | with_reducible refine x_lstG ?_
  | with_reducible refine x_lc ?_
  | (with_reducible refine x_U ?_)
  | ((with_reducible refine' ite_T ?hv ?_); (case hv => exact rfl))
  | ((with_reducible refine' ite_F ?hv ?_); (case hv => exact rfl))
  | with_reducible refine x_for ?_
  | with_reducible refine x_iEnum ?_
  | with_reducible refine x_iList ?_
  | with_reducible refine x_iTup ?_
  | with_reducible refine x_gcons ?_
  | with_reducible refine x_gnil ?_
  | with_reducible refine x_bm ?_
  | with_reducible refine x_fldG ?_
  | with_reducible refine x_meth ?_
  | with_reducible refine x_sl ?_
  | with_reducible refine x_nopart ?_
  | with_reducible refine x_part ?_
  | with_reducible refine x_int ?_
  | with_reducible refine x_yes ?_
  | with_reducible refine x_isNG ?_
  | with_reducible refine x_notNG ?_
  | fail "no step")
local macro_rules | `(tactic| walk_at "g2") => `(tactic| first
  | with_reducible refine x_sfld ?_
  | with_reducible refine x_make ?_
  | with_reducible refine x_dnew ?_
  | with_reducible refine x_lcT ?_
  | with_reducible refine x_lcS ?_
  | with_reducible refine x_disp ?_
  | with_reducible refine x_pcons ?_
  | with_reducible refine x_pnil ?_
  | with_reducible refine x_dnewK ?_
  | with_reducible refine x_dput ?_
  | with_reducible refine x_gsub ?_
  | with_reducible refine x_dget2 ?_
  | with_reducible refine x_litems ?_
  | with_reducible refine x_bmX ?_
  | with_reducible refine x_ckw ?_
  | with_reducible refine L2Z.x_methS ?_
  | with_reducible refine L2Z.x_methN ?_
  | with_reducible refine x_callSD ?_
  | with_reducible refine x_lcZ ?_
  | walk_at "g")
local macro_rules | `(tactic| walk_at "go") => `(tactic| repeat' walk_at "g2")

section
variable {P : Program} {w : World} {K : PySem.W.Frag} {mg : Str → Option Value} {base : Heap}
def sp_Sheet_len (K : PySem.W.Frag) : Sp := fun vs H Q _ => ∃ G p d kvs zs, vs = [.ref p] ∧ Ex G H ∧ MuS K G H p d kvs ∧ HB K G kvs zs ∧ zs.length ≤ 100 ∧ szH (zh zs) = true ∧ ∀ G1 H1, St G H G1 H1 → Q (.int ((rawZ zs).length : Nat)) H1
theorem sc_Sheet___len__ : FnScope ["self"] ["self"] (defScope s_Sheet___len__) := ⟨rfl, rfl, rfl, by decide +kernel, rfl, by decide +kernel, by decide +kernel⟩
theorem ok_Sheet___len__ (T : TX K mg) : FnOk P w K mg base CX0 6 (f_Sheet___len__ K) (fdO K (f_Sheet___len__ K)) ["self"] (sp_Sheet_len K) := by
  refine (F_Sheet___len__ T).ok sc_Sheet___len__ (fun vs H Q E h => ?_) (fun cdv A outer s H vs Q E hr h => ?_)
  · obtain ⟨_, _, _, _, _, rfl, _⟩ := h; rfl
  · obtain ⟨G0, p, d, kvs, zs, rfl, e, ms, hB, hz, hsz, k⟩ := h
    refine ⟨_, PSs.nox (pss_one (ps_ret (pe_callB (lenK (K := K) (by rfl)) (by rfl) (z_len T) PySem.boot_len (pa_cons (pe_meth0 (pv 0) (k_Sheet T) (m_Sheet_pairs T) (ok_Sheet_pairs T) (hr.mono (by decide)) (b_Sheet_pairs T) .nil pass0) pa_nil)))), ?_⟩
    walk_at "go"
    refine mS ms (by decide +kernel) ?_
    walk_at "go"
    refine ⟨G0, p, d, kvs, zs, rfl, e, ms, hB, hz, hsz, fun G1 H1 r ws ys _ s1 m1 p1 hp ho => ?_⟩
    refine ⟨r, ws, rfl, .inl (sq m1.1), ?_⟩
    have el : ws.length = (rawZ zs).length := by rw [paired_len p1, hp.length_eq]
    rw [el]
    exact k G1 H1 s1
end
end GT

/-! ## GLaw5 -/
set_option Elab.async false
set_option linter.all false
set_option maxRecDepth 100000
namespace G
open PySem PySem.Spec PyProof.Rows L2
/-! ### texts: whether they can be compared, sorted ones -/
theorem signs_low : vsigns.all (fun c => decide (c < 0x110000)) = true := by decide +kernel
theorem okV_strOk {z : Str} (h : okV z = true) : PyData.strOk z = true := by
  unfold okV at h
  rw [Bool.and_eq_true] at h
  unfold PyData.strOk
  rw [← Array.all_toList]
  refine List.all_eq_true.mpr fun c hc => ?_
  have := of_decide_eq_true (List.all_eq_true.mp h.2 c hc)
  exact List.all_eq_true.mp signs_low c this
theorem rising_pair : ∀ {p : Str} {l : List Str}, risingS p l = true → (p :: l).Pairwise fun a b => a.cps.toList ≤ b.cps.toList
  | p, [], _ => List.pairwise_singleton _ _
  | p, x :: r, h => by
    have h : (!ltCps x.cps.toList p.cps.toList && risingS x r) = true := h
    rw [Bool.and_eq_true, ltCps_eq] at h
    have le : p.cps.toList ≤ x.cps.toList := by
      have := h.1
      simp only [Bool.not_eq_true', decide_eq_false_iff_not] at this
      exact List.not_lt.mp this
    have ih := rising_pair h.2
    refine List.pairwise_cons.mpr ⟨fun y hy => ?_, ih⟩
    rcases List.mem_cons.mp hy with rfl | hy
    · exact le
    · exact List.le_trans le ((List.pairwise_cons.mp ih).1 y hy)
theorem sorted_pair : ∀ {l : List Str}, sortedS l = true → l.Pairwise fun a b => a.cps.toList ≤ b.cps.toList
  | [], _ => .nil
  | x :: r, h => rising_pair h
theorem sortedS_uniq {xs ys : List Str} (p : xs.Perm ys) (hx : sortedS xs = true) (hy : sortedS ys = true) : xs = ys := by
  refine List.Perm.eq_of_pairwise (le := fun a b : Str => a.cps.toList ≤ b.cps.toList) (fun a b _ _ h1 h2 => ?_) (sorted_pair hx) (sorted_pair hy) p
  have e := List.le_antisymm h1 h2
  obtain ⟨⟨a⟩⟩ := a
  obtain ⟨⟨b⟩⟩ := b
  have e : a = b := e
  rw [e]
section
variable {K : PySem.W.Frag} {G H : Hp} {Q : VK}
theorem can_allM {α : Type} {f : α → PyData} : ∀ {xs : List α}, (∀ a ∈ xs, (f a).canLay0 = true) → PyData.canLayAll0 (xs.map f) = true
  | [], _ => rfl
  | x :: xs, h => by
    show (PyData.canLay0 (f x) && PyData.canLayAll0 (xs.map f)) = true
    rw [h x (by simp), can_allM fun a ha => h a (List.mem_cons_of_mem _ ha)]; rfl
/-- two lists that hold the same are not unlike -/
theorem neListM {α : Type} {R S : Rp α} {f : α → PyData} {n : Nat} {v u : V} {xs : List α} (hR : ∀ v a, R G v a → Dp K H v (f a)) (hS : ∀ v a, S G v a → Dp K H v (f a)) (hc : ∀ a ∈ xs, (f a).canLay0 = true) (hd : ∀ a, (f a).depth ≤ n) (hn : n < 64) (hx : IsL R G v xs) (hy : IsL S G u xs) (e : Ex G H) (q : Q (.bl false) H) : rNeD K v u H Q := by
  have sh : SeqAt.shaped (.list (xs.map f)) = true := shaped_of (can_allM hc) (by show PyData.depthAll (xs.map f) + 1 ≤ 64; have := depth_all hd xs; omega)
  refine ⟨_, _, dp_list hR hx e, dp_list hS hy e, sh, sh, ?_⟩
  rw [SeqAt.eqv_refl _ (SeqAt.canLay_of_shaped sh)]; exact q
theorem pairD_can {p : Blk × Str} (h : PyData.strOk p.2 = true) : (pairD p).canLay0 = true := by
  unfold pairD
  show (PyData.canLay0 (quadD p.1) && (PyData.strOk p.2 && true)) = true
  rw [quad_can, h]; rfl
theorem pairD_depth (p : Blk × Str) : (pairD p).depth ≤ 2 := by
  unfold pairD
  show max (PyData.depth (quadD p.1)) (max 0 0) + 1 ≤ 2
  rw [quad_depth]; decide
theorem neTBs {v u : V} {xs : List Blk} (hx : IsL IsTB G v xs) (hy : IsL IsTB G u xs) (e : Ex G H) (q : Q (.bl false) H) : rNeD K v u H Q :=
  neListM (f := quadD) (n := 1) (fun v a h => dp_isTB e h) (fun v a h => dp_isTB e h) (fun a _ => quad_can a) (fun a => Nat.le_of_eq (quad_depth a)) (by decide) hx hy e q
theorem neTPs {v u : V} {xs : List (Blk × Str)} (ok : ∀ p ∈ xs, PyData.strOk p.2 = true) (hx : IsL IsTP G v xs) (hy : IsL IsTP G u xs) (e : Ex G H) (q : Q (.bl false) H) : rNeD K v u H Q :=
  neListM (f := pairD) (n := 2) (fun v a h => dp_isTP e h) (fun v a h => dp_isTP e h) (fun a ha => pairD_can (ok a ha)) pairD_depth (by decide) hx hy e q
theorem neStrs {v u : V} {xs : List Str} (ok : ∀ z ∈ xs, PyData.strOk z = true) (hx : IsL IsS G v xs) (hy : IsL IsS G u xs) (e : Ex G H) (q : Q (.bl false) H) : rNeD K v u H Q :=
  neListM (f := PyData.str) (n := 0) (fun v a h => dp_str h) (fun v a h => dp_str h) (fun a ha => ok a ha) (fun a => Nat.le_refl _) (by decide) hx hy e q
end
section
variable {K : PySem.W.Frag} {G H : Hp} {Q : VK} {P : Program} {w : World}
theorem x_bm0 {T : String} {r : V → List V → Hp → VK → Prop} {to : TE} {σ : L2.St} (h : to σ H fun x H1 => tyV K T x H1 ∧ r x [] H1 Q) : tBM0 K T r to σ H Q := h
theorem clearM {l : Addr} {xs : List V} (m : Mu G H l (.lst xs)) (e : Ex G H) (k : ∀ H1, Stm [l] G H G H1 → Q .non H1) : rClear (.ref l) [] H Q :=
  ⟨l, xs, rfl, rfl, m.1, by obtain ⟨s, _⟩ := chgF (o' := .lst []) m e; exact k _ s⟩
theorem x_setS {v : V} {ns : List Str} (hx : IsL IsS G v ns) (e : Ex G H) (z : ns.length + 1 < scanBound) (h : ∀ p H1, St G H G H1 → H1 p = some (SetSO P w p (uniq ns)) → Q (.ref p) H1) : rSetS K P w [v] H Q := by
  obtain ⟨p, ws, rfl, hp, hr⟩ := hx
  have ew : ws = ns.map V.str := by
    clear hp z h
    induction hr with
    | nil => rfl
    | cons r t ih => rw [r, ih]; rfl
  subst ew
  refine ⟨p, ns, rfl, sq (e _ _ hp), z, fun q hq => ?_⟩
  obtain ⟨s, m⟩ := almF (o := SetSO P w q (uniq ns)) hq e
  exact h q _ s m.1
theorem x_sortS {p : Addr} {ks : List Str} (hp : H p = some (SetSO P w p ks)) (e : Ex G H) (z : ks.length < 64) (h : ∀ G1 H1 r ys, St G H G1 H1 → ys.Perm ks → sortedS ys = true → IsL IsS G1 r ys → Q r H1) : rSortS P w [.ref p] H Q := by
  refine ⟨p, ks, rfl, hp, z, fun ys q pm so hq => ?_⟩
  obtain ⟨s, g⟩ := alF (o := .lst (ys.map V.str)) hq e
  exact h _ _ _ ys s pm so ⟨q, _, rfl, g, strs_paired ys⟩
end
theorem flat_take {α : Type} {ls : List (List α)} {n : Nat} (h : ls.flatten.length ≤ n) (i : Nat) : (ls.take i).flatten.length ≤ n := by
  have e : ls.flatten.length = (ls.take i).flatten.length + (ls.drop i).flatten.length := by
    rw [← List.length_append, ← List.flatten_append, List.take_append_drop]
  omega
theorem grid_len {R C : List Int} {W : Vals} : (R.map fun x => C.map fun c => W x c).flatten.length = R.length * C.length := by
  induction R with
  | nil => simp
  | cons a R ih => rw [List.map_cons, List.flatten_cons, List.length_append, ih, List.length_map, List.length_cons, Nat.add_mul]; omega
theorem atCuts_eq (W : Vals) (R C : List Int) : (R.map fun x => C.map fun c => W x c).flatten = atCuts W R C := List.flatMap_def.symm
/-! ### a sheet's value of a cell -/
theorem valH_one {hs : Hs} {W : Vals} (h : Holds hs W) (n : NiceV W) {x c : Int} (hx : 1 ≤ x) (hc : 1 ≤ c) : valH hs x c = [W x c] := by
  have hit : ∀ u ∈ hs, (u.2.any fun b => hasB b x c) = decide (W x c = u.1) := fun u hu => by
    show cellsOf u.2 x c = _
    rw [(h.cn u hu).cells (n u.1)]
    unfold sv
    rw [decide_eq_true hx, decide_eq_true hc]; rfl
  have mem : ∀ z ∈ valH hs x c, z = W x c := fun z hz => by
    obtain ⟨u, hu, rfl⟩ := List.mem_map.mp hz
    obtain ⟨h1, h2⟩ := List.mem_filter.mp hu
    rw [hit u h1] at h2
    exact (of_decide_eq_true h2).symm
  have nd : (valH hs x c).Nodup := List.Nodup.sublist (List.Sublist.map _ (List.filter_sublist ..)) h.kn
  have isin : W x c ∈ valH hs x c := by
    obtain ⟨xs, hm⟩ := h.al x c hx hc
    exact List.mem_map.mpr ⟨_, List.mem_filter.mpr ⟨hm, by rw [hit _ hm]; exact decide_eq_true rfl⟩, rfl⟩
  generalize valH hs x c = l at mem nd isin
  cases l with
  | nil => cases isin
  | cons a r =>
    cases r with
    | nil => rw [mem a (by simp)]
    | cons b r =>
      have := (List.nodup_cons.mp nd).1
      rw [mem a (by simp), mem b (by simp)] at this
      exact absurd (by simp) this
/-- what a law has told of a value is what the sheet holds -/
theorem lform_get {hs : Hs} {W : Vals} {R C : List Int} (h : Holds hs W) (n : NiceV W) (k : CutsOk W R C) (z : Str) : lform R (R.map (lrow W C z)) = (getH hs z).getD [] := (lform_canon k (n z)).uniq (h.get z)
theorem keys_uniq {hs : Hs} {W : Vals} {R C : List Int} (h : Holds hs W) (k : CutsOk W R C) : (uniq (atCuts W R C)).Perm (hs.map (·.1)) := by
  refine (List.perm_ext_iff_of_nodup (uniq_nodup .nil) h.kn).mpr fun z => ?_
  show z ∈ uniq (atCuts W R C) ↔ _
  rw [uniq_mem]
  exact (keys_cuts h k z).symm
theorem form_one {W : Vals} {R C : List Int} (k : CutsOk W R C) (n : NiceV W) (z : Str) : ∀ x ∈ lfRaw ((R.zip (R.map (lrow W C z))).foldl lfStep ([], [])), ∀ y ∈ lfRaw ((R.zip (R.map (lrow W C z))).foldl lfStep ([], [])), bkey x = bkey y → x = y := by
  have cn := lform_canon k (n z)
  intro x hx y hy e
  have mx := (cn.2.2 x).mp ((sortB_perm _).mem_iff.mpr hx)
  have my := (cn.2.2 y).mp ((sortB_perm _).mem_iff.mpr hy)
  obtain ⟨e1, e2⟩ := Prod.mk.inj e
  exact mx.key my e1 e2
/-- the blocks of values, in the order of a list of values -/
theorem lpairs_more {F : Str → List Blk} {ys : List Str} {i : Nat} {z : Str} (h : ys[i]? = some z) : lpairs F (ys.take (i + 1)) = lpairs F (ys.take i) ++ if z = Str.ofString "" then [] else (F z).map fun b => (b, z) := by
  unfold lpairs
  rw [take_more h, List.flatMap_append, List.flatMap_singleton]
theorem lpairs_part {F : Str → List Blk} {ys : List Str} (i : Nat) : (lpairs F (ys.take i)).length ≤ (lpairs F ys).length := by
  have e : lpairs F ys = lpairs F (ys.take i) ++ lpairs F (ys.drop i) := by
    unfold lpairs
    rw [← List.flatMap_append, List.take_append_drop]
  rw [e, List.length_append]; omega
theorem rawP_len {hs : Hs} {n : Nat} (h : ∀ u ∈ hs, u.2.length ≤ n) : (rawP hs).length ≤ hs.length * n := by
  induction hs with
  | nil => simp [rawP]
  | cons u r ih =>
    have ih := ih fun x hx => h x (List.mem_cons_of_mem _ hx)
    have hu := h u (by simp)
    unfold rawP at ih ⊢
    have hp : (if u.1 = Str.ofString "" then ([] : List (Blk × Str)) else u.2.map fun b => (b, u.1)).length ≤ n := by
      split
      · exact Nat.zero_le _
      · rw [List.length_map]; exact hu
    rw [List.flatMap_cons, List.length_append, List.length_cons, Nat.add_mul]
    omega
theorem rawP_keysNd {hs : Hs} {W : Vals} (h : Holds hs W) {ps : List (Blk × Str)} (p : ps.Perm (rawP hs)) : (ps.map pk).Nodup := by
  have nd := p.nodup_iff.mpr (rawP_nodup h)
  have inj := rawP_inj h
  rw [List.nodup_iff_pairwise_ne] at *
  exact List.pairwise_map.mpr (List.Pairwise.imp_of_mem (fun {a b} ha hb ne e => ne (inj a (p.mem_iff.mp ha) b (p.mem_iff.mp hb) e)) nd)
end G

/-! ## GLaw6 -/
set_option Elab.async false
set_option linter.all false
set_option maxRecDepth 100000
namespace G
open PySem PySem.Spec PyProof.Rows L2
/-! ### a sheet and a law's book that tell the same -/
structure RightOk (hs : Hs) (m : Mine) : Prop where
  h : Holds hs (valF m.ds)
  n : NiceV (valF m.ds)
  c : CutsOk (valF m.ds) m.R m.C
  sz : m.R.length * m.C.length ≤ 1500
  few : hs.length < 50
  zR : m.R.length ≤ 1000
  zC : m.C.length ≤ 1000
  d : ∀ d ∈ m.ds, d.1.length ≤ 1000
  v : ∀ u ∈ hs, okV u.1 = true ∧ u.1.cps.size ≤ 1000
theorem fillH_keys {hs : Hs} {a : List Blk} {z : Str} : ∀ u ∈ fillH hs a z, (∃ v ∈ hs, u.1 = v.1) ∨ u.1 = z := fun u hu => by
  have hu := (List.mem_filter.mp hu).1
  unfold preH putH at hu
  split at hu
  · obtain ⟨v, hv, rfl⟩ := List.mem_map.mp hu
    obtain ⟨w, hw, rfl⟩ := List.mem_map.mp hv
    refine .inl ⟨w, hw, ?_⟩
    split <;> rfl
  · rcases List.mem_append.mp hu with hv | hv
    · obtain ⟨w, hw, rfl⟩ := List.mem_map.mp hv
      exact .inl ⟨w, hw, rfl⟩
    · exact .inr (by rw [List.mem_singleton.mp hv])
theorem cuts_more (R : List Int) (xs : List Blk) (k : Blk → Rn) : (sd (R ++ cutsOf (xs.map k))).length ≤ R.length + 2 * xs.length := by
  have h1 := sd_len (R ++ cutsOf (xs.map k))
  have h2 := cutsOf_len (xs.map k)
  rw [List.length_append] at h1
  rw [List.length_map] at h2
  omega
theorem norm_len {bs : List Blk} (hb : ∀ b ∈ bs, okB b = true) : (norm bs).length ≤ (2 * bs.length) * (2 * bs.length) := by
  have h := (norm_canon hb).len (cells_cut hb)
  have h1 : (rowCuts bs).length ≤ 2 * bs.length := by have := cutsOf_len (bs.map fun b => (b.t, b.b)); rw [List.length_map] at this; exact this
  have h2 : (colCuts bs).length ≤ 2 * bs.length := by have := cutsOf_len (bs.map fun b => (b.l, b.r)); rw [List.length_map] at this; exact this
  exact Nat.le_trans h (Nat.mul_le_mul h1 h2)
theorem okN_few {bs : List Blk} (hb : ∀ b ∈ bs, okB b = true) (hl : bs.length ≤ 10) : okN bs = true := by
  have h1 : (rowCuts bs).length ≤ 2 * bs.length := by have := cutsOf_len (bs.map fun b => (b.t, b.b)); rw [List.length_map] at this; exact this
  have h2 : (colCuts bs).length ≤ 2 * bs.length := by have := cutsOf_len (bs.map fun b => (b.l, b.r)); rw [List.length_map] at this; exact this
  refine okN_of hb (cells_cut hb) (Nat.le_trans (Nat.mul_le_mul h1 h2) ?_) (by omega)
  have : 2 * bs.length * (2 * bs.length) ≤ 20 * 20 := Nat.mul_le_mul (by omega) (by omega)
  omega
/-- one filling more -/
theorem RightOk.fill {hs : Hs} {m : Mine} (o : RightOk hs m) {bs : List Blk} {z : Str} (hb : ∀ b ∈ bs, okB b = true) (hl : bs.length ≤ 3) (hz : okV z = true ∧ z.cps.size ≤ 1000) {n : Nat} (hR : m.R.length ≤ n) (hC : m.C.length ≤ n) (hn : n ≤ 31) (few : hs.length < 49) :
    okFill hs (norm bs) z = true ∧ RightOk (fillH hs (norm bs) z) (lfill m bs z) ∧ (lfill m bs z).R.length ≤ n + 6 ∧ (lfill m bs z).C.length ≤ n + 6 := by
  have ha := norm_canon hb
  have nT := cellsOf_nice hb
  have lR : (sd (m.R ++ rowCuts bs)).length ≤ n + 6 := by have := cuts_more m.R bs fun b => (b.t, b.b); unfold rowCuts; omega
  have lC : (sd (m.C ++ colCuts bs)).length ≤ n + 6 := by have := cuts_more m.C bs fun b => (b.l, b.r); unfold colCuts; omega
  have lRC : (sd (m.R ++ rowCuts bs)).length * (sd (m.C ++ colCuts bs)).length ≤ 37 * 37 := Nat.mul_le_mul (by omega) (by omega)
  have la : (norm bs).length ≤ 36 := by
    have := norm_len hb
    have : 2 * bs.length * (2 * bs.length) ≤ 6 * 6 := Nat.mul_le_mul (by omega) (by omega)
    omega
  have c1 := o.c.cut.mono (R' := sd (m.R ++ rowCuts bs)) (C' := sd (m.C ++ colCuts bs)) (fun x hx => (sd_mem _ _).mpr (List.mem_append_left _ hx)) fun x hx => (sd_mem _ _).mpr (List.mem_append_left _ hx)
  have c2 := (cells_cut hb).mono (R' := sd (m.R ++ rowCuts bs)) (C' := sd (m.C ++ colCuts bs)) (fun x hx => (sd_mem _ _).mpr (List.mem_append_right _ hx)) fun x hx => (sd_mem _ _).mpr (List.mem_append_right _ hx)
  have hfl := fill_len hs (norm bs) z
  have ev : valF (m.ds ++ [(bs, z)]) = putV (valF m.ds) (cellsOf bs) z := valF_snoc m.ds (bs, z)
  refine ⟨fill_ok o.h o.n nT ha z c1 c2 (by omega) (by omega) (by omega), ⟨?_, ?_, ?_, ?_, by omega, ?_, ?_, ?_, ?_⟩, lR, lC⟩
  · show Holds _ (valF (m.ds ++ [(bs, z)]))
    rw [ev]; exact fill_holds o.h o.n nT ha z
  · show NiceV (valF (m.ds ++ [(bs, z)]))
    rw [ev]; exact put_nice o.n nT o.h ha z
  · show CutsOk (valF (m.ds ++ [(bs, z)])) _ _
    rw [ev]; exact o.c.put hb z
  · show (sd (m.R ++ rowCuts bs)).length * (sd (m.C ++ colCuts bs)).length ≤ 1500
    omega
  · show (sd (m.R ++ rowCuts bs)).length ≤ 1000
    omega
  · show (sd (m.C ++ colCuts bs)).length ≤ 1000
    omega
  · intro d hd
    rcases List.mem_append.mp hd with hd | hd
    · exact o.d d hd
    · rw [List.mem_singleton.mp hd]
      show bs.length ≤ 1000
      omega
  · intro u hu
    rcases fillH_keys u hu with ⟨v, hv, e⟩ | e
    · rw [e]; exact o.v v hv
    · rw [e]; exact hz
theorem right0 : RightOk [(Str.ofString "", norm wholeB)] mine0 := by
  refine ⟨new_holds, new_nice, CutsOk.new, by decide, by decide, by decide, by decide, (fun d hd => by cases hd), fun u hu => ?_⟩
  rw [List.mem_singleton.mp hu]
  exact ⟨by decide +kernel, by decide +kernel⟩
/-! ### a comprehension over a range, whose element draws -/
section
variable {K : PySem.W.Frag} {G H : Hp} {Q : VK} {σ : L2.St}
theorem Stm.drop {D : Addr} {A : List Addr} {G' H' : Hp} (s : Stm (D :: A) G H G' H') (h : H D = Option.none) : Stm A G H G' H' :=
  ⟨s.g, s.i, fun q u n m => s.m q u (fun z => by
    rcases List.mem_cons.mp z with e | e
    · subst e; rw [m.1] at h; cases h
    · exact n e) m⟩
def LcRGo (n : Nat) (gt : TG) (tt : TT) (te : TE) (vs : List Nat) (σ : L2.St) (H1 : Hp) (Q : VK) : Prop :=
  ∀ D, H1 D = none → ∃ W : Nat → Nat → Hp → Prop, (∃ m, W 0 m (upd H1 D (.lst []))) ∧ ∀ i m H, W i m H →
  ((Itr 0 n).stop i H ∧ Q (.ref D) H) ∨ ((Itr 0 n).go i H ∧ ∃ Nx : Hp → Prop, (∀ H', Nx H' → ∃ m', m' < m ∧ W (i + 1) m' H') ∧ ∀ x H', (Itr 0 n).yld i H x H' → gt x (wipe σ vs) H' fun σ2 H2 => wipe σ2 vs = wipe σ vs ∧ tt σ2 H2 fun b H3 =>
    if b = true then te σ2 H3 fun y H4 => ∃ acc, H4 D = some (.lst acc) ∧ acc.length < sizeLine ∧ Nx (upd H4 D (.lst (acc ++ [y]))) else Nx H3)
theorem x_lcRng {ta : TA} {gt : TG} {tt : TT} {te : TE} {vs : List Nat} (h : ta σ H fun us H1 => ∃ j : Int, us = [.int j] ∧ -(2 ^ 62) ≤ j ∧ j < 2 ^ 62 ∧ LcRGo j.toNat gt tt te vs σ H1 Q) : tLc (iRng1 ta) gt tt te vs σ H Q := h
theorem lcRW {β : Type} {S : Rp β} (mS : Mono S) (ok : β → Prop) {n : Nat} {A : List Addr} {gt : TG} {te : TE} {vs : List Nat} (Jv : Nat → Hp → Hp → Prop) (e : Ex G H) (hz : n < sizeLine) (hA : ∀ a ∈ A, H a ≠ none) (j0 : Jv 0 G H)
    (jst : ∀ i G1 H1 G2 H2 D, Jv i G1 H1 → H D = none → Stm [D] G1 H1 G2 H2 → Jv i G2 H2)
    (turn : ∀ (i : Nat) (G1 H1 : Hp) (N1 : VK), i < n → Stm A G H G1 H1 → Jv i G1 H1 → (∀ G2 H2 y b, Stm A G1 H1 G2 H2 → Jv (i + 1) G2 H2 → S G2 y b → ok b → N1 y H2) → gt (.int (0 + (i : Nat))) (wipe σ vs) H1 fun σ2 H2 => wipe σ2 vs = wipe σ vs ∧ te σ2 H2 N1)
    (done : ∀ G1 H1 D bs, Stm A G H G1 H1 → Jv n G1 H1 → bs.length = n → (∀ b ∈ bs, ok b) → IsL S G1 (.ref D) bs → Q (.ref D) H1) : LcRGo n gt tYes te vs σ H Q := by
  intro D hD
  have hDA : D ∉ A := fun h => hA D h hD
  refine lc_it (walk_range (lo := 0) (n := n)) (fun i H' => ∃ G' ys bs, Stm A G H G' H' ∧ Jv i G' H' ∧ Mu G' H' D (.lst ys) ∧ Paired (S G') ys bs ∧ bs.length = i ∧ ∀ b ∈ bs, ok b) ?_ (fun _ _ _ _ => trivial) ?_ ?_
  · obtain ⟨s, m⟩ := almF (o := .lst []) hD e
    exact ⟨G, [], [], s.sub (by simp), jst _ _ _ _ _ D j0 hD (s.sub (by simp)), m, .nil, rfl, fun b hb => nomatch hb⟩
  · rintro i x H1 H2 hi ⟨G', ys, bs, s, j, m, ps, hl, hb⟩ y
    obtain ⟨e2, hx⟩ := y
    subst e2 hx
    have := turn i G' H2 (fun y H4 => ∃ acc, H4 D = some (.lst acc) ∧ acc.length < sizeLine ∧ ∃ G' ys bs, Stm A G H G' (upd H4 D (.lst (acc ++ [y]))) ∧ Jv (i + 1) G' (upd H4 D (.lst (acc ++ [y]))) ∧ Mu G' (upd H4 D (.lst (acc ++ [y]))) D (.lst ys) ∧ Paired (S G') ys bs ∧ bs.length = i + 1 ∧ ∀ b ∈ bs, ok b) hi s j fun G2 H3 y b s2 j2 hy hok => ?_
    · exact this
    · have m2 := s2.m _ _ hDA m
      obtain ⟨s3, m3⟩ := chgF (o' := .lst (ys ++ [y])) m2 s2.i
      refine ⟨ys, m2.1, by rw [paired_len ps]; omega, G2, ys ++ [y], bs ++ [b], Stm.drop (D := D) (((s.trans s2).sub (fun x hx => List.mem_cons_of_mem _ hx)).trans (s3.sub (by simp))) hD, jst _ _ _ _ _ D j2 hD s3, m3, paired_snoc hy (paired_imp (fun a b q => mS _ _ a b s2.g q) ps), by simp [hl], fun b' hb' => ?_⟩
      rcases List.mem_append.mp hb' with h | h
      · exact hb b' h
      · rw [List.mem_singleton.mp h]; exact hok
  · rintro H' ⟨G', ys, bs, s, j, m, ps, hl, hb⟩
    obtain ⟨s2, g2⟩ := freeze m s.i
    exact done _ H' D bs (Stm.drop (D := D) ((s.sub (fun x hx => List.mem_cons_of_mem _ hx)).trans (s2.sub (by simp))) hD) (jst _ _ _ _ _ D j hD s2) hl hb ⟨D, ys, rfl, g2, paired_imp (fun a b q => mS _ _ a b s2.g q) ps⟩
/-- a list some times behind itself -/
theorem paired_rep {α β : Type} {F : α → β → Prop} {xs : List α} {ys : List β} (h : Paired F xs ys) : ∀ n : Nat, Paired F (List.replicate n xs).flatten (List.replicate n ys).flatten
  | 0 => .nil
  | n + 1 => by
    rw [List.replicate_succ, List.replicate_succ, List.flatten_cons, List.flatten_cons]
    exact paired_append h (paired_rep h n)
theorem repG {α : Type} {R : Rp α} (mR : Mono R) {v : V} {xs : List α} {n : Nat} (hx : IsL R G v xs) (e : Ex G H) (hz : xs.length * n ≤ 1000) (hn : n ≤ 1000) (h : ∀ G1 H1 p, St G H G1 H1 → IsL R G1 (.ref p) (List.replicate n xs).flatten → Q (.ref p) H1) : rRep v (.int (n : Nat)) H Q := by
  obtain ⟨p, ws, rfl, hp, hr⟩ := hx
  have big : 1000 ≤ sizeLine := by decide
  refine ⟨p, n, ws, rfl, rfl, e _ _ hp, by omega, by omega, by rw [paired_len hr]; show xs.length * n ≤ _; omega, fun q hq => ?_⟩
  show Q (.ref q) (upd H q (.lst (List.replicate n ws).flatten))
  obtain ⟨s, g⟩ := alF (o := .lst (List.replicate n ws).flatten) hq e
  exact h _ _ q s ⟨q, _, rfl, g, paired_rep (paired_imp (fun a b q => mR _ _ a b s.g q) hr) n⟩
end
end G

/-! ## LG -/
set_option Elab.async false
set_option linter.all false
set_option maxRecDepth 100000
set_option maxHeartbeats 2000000
namespace GT
open PySem PySem.Spec PyProof.Rows L2 G
local macro_rules | `(tactic| walk_at "ex") => `(tactic| first | exact Ex.refl _ | assumption | exact Stm.g (by assumption) | (refine Ex.trans ?_ (Stm.g (by assumption)); walk_at "ex"))
local macro_rules | `(tactic| walk_at "st") => `(tactic| first | exact Stm.refl (by assumption) | assumption | (refine Stm.trans ?_ (by assumption); walk_at "st"))
local macro_rules | `(tactic| walk_at "i") => `(tactic| first | assumption | exact Stm.i (by assumption))
local macro_rules | `(tactic| walk_at "fact") => `(tactic| first | rfl | exact (rfl : V.non = optV none) | exact (rfl : V.int _ = optV (some _)) | assumption)
local macro_rules | `(tactic| walk_at "g") => `(tactic| first
  | with_reducible refine x_seq ?_
  | with_reducible refine x_next ?_
  | with_reducible refine x_asg ?_
  | with_reducible refine x_ret ?_
  | with_reducible refine x_retN ?_
  | with_reducible refine x_drop ?_
  | with_reducible refine x_ifs ?_
  | ((with_reducible refine' x_var ?hv ?_); (case hv => exact rfl))
  | with_reducible refine x_c ?_
  | with_reducible refine x_op ?_
  | with_reducible refine x_un ?_
  | with_reducible refine x_test ?_
  | with_reducible refine x_B ?_
  | with_reducible refine x_bl ?_
  | with_reducible refine x_and ?_
  | with_reducible refine x_or ?_
  | with_reducible refine x_not ?_
  | with_reducible refine x_andV ?_
  | with_reducible refine x_orV ?_
  | with_reducible refine x_notV ?_
  | with_reducible refine x_ife ?_
  | with_reducible refine x_isN ?_
  | with_reducible refine x_notN ?_
  | with_reducible refine x_nil ?_
  | with_reducible refine x_cons ?_
  | with_reducible refine x_cb ?_
  | with_reducible refine x_call ?_
  | ((with_reducible refine' x_callL ?hv ?_); (case hv => exact rfl))
  | ((with_reducible refine' x_gnameN ?hv ?_); (case hv => (simp only [L2.start, List.map_cons, List.map_nil, List.length_cons, List.length_nil, List.replicate_succ, List.replicate_zero, List.cons_append, List.nil_append, List.set_cons_zero, List.set_cons_succ, Nat.reduceAdd, Nat.reduceSub, Nat.add_one_sub_one]; exact rfl)))
  | with_reducible refine x_gname ?_
  | with_reducible refine x_I0 ?_
  | ((with_reducible refine' x_eq ?hv ?_); (case hv => exact rfl))
  | ((with_reducible refine' x_ne ?hv ?_); (case hv => exact rfl))
  | with_reducible refine x_tupG ?_
  | with_reducible refine x_lstG ?_
  | with_reducible refine x_lc ?_
  | (with_reducible refine x_U ?_)
  | ((with_reducible refine' ite_T ?hv ?_); (case hv => exact rfl))
  | ((with_reducible refine' ite_F ?hv ?_); (case hv => exact rfl))
  | with_reducible refine x_for ?_
  | with_reducible refine x_iEnum ?_
  | with_reducible refine x_iRng1 ?_
  | with_reducible refine x_iList ?_
  | with_reducible refine x_iTup ?_
  | with_reducible refine x_gcons ?_
  | with_reducible refine x_gnil ?_
  | with_reducible refine x_bm ?_
  | with_reducible refine x_fldG ?_
  | with_reducible refine x_meth ?_
  | with_reducible refine x_sl ?_
  | with_reducible refine x_nopart ?_
  | with_reducible refine x_part ?_
  | with_reducible refine x_int ?_
  | with_reducible refine x_yes ?_
  | with_reducible refine x_isNG ?_
  | with_reducible refine x_notNG ?_
  | fail "no step")
local macro_rules | `(tactic| walk_at "g2") => `(tactic| first
  | with_reducible refine x_sfld ?_
  | with_reducible refine x_make ?_
  | with_reducible refine x_dnew ?_
  | with_reducible refine x_lcT ?_
  | with_reducible refine x_lcS ?_
  | with_reducible refine x_disp ?_
  | with_reducible refine x_pcons ?_
  | with_reducible refine x_pnil ?_
  | with_reducible refine x_dnewK ?_
  | with_reducible refine x_dput ?_
  | with_reducible refine x_gsub ?_
  | with_reducible refine x_dget2 ?_
  | with_reducible refine x_litems ?_
  | with_reducible refine x_bmX ?_
  | with_reducible refine x_ckw ?_
  | with_reducible refine L2Z.x_methS ?_
  | with_reducible refine L2Z.x_methN ?_
  | with_reducible refine x_callSD ?_
  | with_reducible refine x_lcZ ?_
  | with_reducible refine x_iZip ?_
  | with_reducible refine x_dget ?_
  | with_reducible refine x_revL ?_
  | with_reducible refine x_bm0 ?_
  | with_reducible refine x_lcRng ?_
  | walk_at "g")
local macro_rules | `(tactic| walk_at "go") => `(tactic| repeat' walk_at "g2")

section
variable {P : Program} {w : World} {K : PySem.W.Frag} {mg : Str → Option Value} {base : Heap}
def toP (z : Blk × Str × V) : Blk × Str := (z.1, z.2.1)
theorem rawZ_P {G : Hp} : ∀ {kvs : List (Key × V)} {zs : Zs}, HB K G kvs zs → (rawZ zs).map toP = rawP (zh zs)
  | _, _, .nil => rfl
  | _, _, .cons (b := z) r t => by
    obtain ⟨_, _, _, _, _, _, _, hp⟩ := r
    have ih := rawZ_P t
    unfold rawZ rawP zh at ih ⊢
    rw [List.flatMap_cons, List.map_append, ih, List.map_cons, List.flatMap_cons]
    congr 1
    unfold partZ
    by_cases c : z.1 = Str.ofString ""
    · rw [if_pos c, if_pos c]; rfl
    · rw [if_neg c, if_neg c, List.map_map]
      have hl : z.2.1.length ≤ z.2.2.length := Nat.le_of_eq (paired_len hp).symm
      have e1 : (z.2.1.zip z.2.2).map (toP ∘ fun q => (q.1, z.1, q.2)) = ((z.2.1.zip z.2.2).map Prod.fst).map fun b : Blk => (b, z.1) := by
        rw [List.map_map]; rfl
      rw [e1, List.map_fst_zip hl]
def sp_law_right (K : PySem.W.Frag) : Sp := fun vs H Q _ => ∃ G p d kvs hs v m, vs = [.ref p, v] ∧ Ex G H ∧ MuS K G H p d kvs ∧ HD K G kvs hs ∧ IsMine G v m ∧ RightOk hs m ∧ ∀ G1 H1, St G H G1 H1 → Q (.bl true) H1
theorem sc__law_right : FnScope ["_law_sheet", "_law_mine", "_law_grid_here", "_law_values", "_law_line", "_law_pairs", "_law_value_here", "_law_form_here", "_law_told", "_law_row", "_law_cell", "_law_block_here"] ["_law_sheet", "_law_mine"] (defScope s__law_right) := ⟨rfl, rfl, rfl, by decide +kernel, rfl, by decide +kernel, by decide +kernel⟩
theorem ok__law_right (T : TX K mg) : FnOk P w K mg base CX0 12 (f__law_right K) (fdO K (f__law_right K)) ["_law_sheet", "_law_mine"] (sp_law_right K) := by
  refine (F__law_right T).ok sc__law_right (fun vs H Q E h => ?_) (fun cdv A outer s H vs Q E hr h => ?_)
  · obtain ⟨_, _, _, _, _, _, _, rfl, _⟩ := h; rfl
  · obtain ⟨G0, p, d, kvs, hs, v, m, rfl, e, ms, hD, hM, ok, k⟩ := h
    refine ⟨_, PSs.nox (pss_cons (ps_set (i := 2) sc__law_right.nd rfl (by first | exact Or.inl rfl | exact Or.inr rfl) (pe_call (ok__law_grid T) (hr.mono (by decide)) (by rfl) (g__law_grid T) (F__law_grid T).kp (b__law_grid T) .nil pass0 (pa_cons (pv 1) pa_nil)))
      (pss_cons (ps_set (i := 3) sc__law_right.nd rfl (by first | exact Or.inl rfl | exact Or.inr rfl) (pe_lst pa_nil))
      (pss_cons (ps_for PassesOwn.never rfl (pi_list (pv 2)) (pg_name (i := 4) sc__law_right.nd rfl (by first | exact Or.inl rfl | exact Or.inr rfl)) (pss_one (ps_set (i := 3) sc__law_right.nd rfl (by first | exact Or.inl rfl | exact Or.inr rfl) (pe_op op_cat (pv 3) (pv 4)))))
      (pss_cons (ps_set (i := 5) sc__law_right.nd rfl (by first | exact Or.inl rfl | exact Or.inr rfl) (pe_lst pa_nil))
      (pss_cons (ps_for PassesOwn.never rfl (pi_list (pe_callB (cr_sortS rfl) (by rfl) (z_sorted T) (by decide +kernel) (pa_cons (pe_callTy (cr_setS rfl) (by rfl) (z_set T) (by decide +kernel) (pa_cons (pv 3) pa_nil)) pa_nil))) (pg_name (i := 6) sc__law_right.nd rfl (by first | exact Or.inl rfl | exact Or.inr rfl)) (pss_cons (ps_set (i := 7) sc__law_right.nd rfl (by first | exact Or.inl rfl | exact Or.inr rfl) (pe_call (ok__law_form T) (hr.mono (by decide)) (by rfl) (g__law_form T) (F__law_form T).kp (b__law_form T) .nil pass0 (pa_cons (pe_dget (Nat.lt_of_le_of_lt (Nat.add_le_add_left (by decide : 1 ≤ 64) _) hr.units) (pv 1) pe_str (fun _ _ => rfl)) (pa_cons (pe_dget (Nat.lt_of_le_of_lt (Nat.add_le_add_left (by decide : 1 ≤ 64) _) hr.units) (pv 1) pe_str (fun _ _ => rfl)) (pa_cons (pv 2) (pa_cons (pv 6) pa_nil))))))
      (pss_cons (ps_if (pt_cmpR (op_neD hr.units) (pe_lc (own := [("_law_block_here", 11)]) (g := gName 11) (by rfl) sc__law_right.nd (pi_list (pe_meth0 (pe_meth (pv 0) (k_Sheet T) (m_Sheet_where T) (ok_Sheet_where T) (hr.mono (by decide)) (b_Sheet_where T) .nil passN (pa_cons (pv 6) pa_nil)) (k_Area T) (m_Area_blocks T) (ok_Area_blocks T) (hr.mono (by decide)) (b_Area_blocks T) .nil pass0)) (blkOk_by (own := [("_law_block_here", 11)]) (N := ["_law_sheet", "_law_mine", "_law_grid_here", "_law_values", "_law_line", "_law_pairs", "_law_value_here", "_law_form_here", "_law_told", "_law_row", "_law_cell", "_law_block_here"]) (sc := defScope s__law_right) (by decide +kernel)) (fun _ _ _ _ _ => (pg_name (i := 11) sc__law_right.nd rfl (by first | exact Or.inl rfl | exact Or.inr rfl))) (fun _ _ _ _ _ => pts_nil) (fun _ _ _ _ _ => (pe_call (ok__law_block_told T) (hr.mono (by decide)) (by rfl) (g__law_block_told T) (F__law_block_told T).kp (b__law_block_told T) .nil pass0 (pa_cons (pv 11) pa_nil)))) (pv 7) (nomark _)) (pss_one (ps_ret pe_bl)) pss_nil)
      (pss_one (ps_set (i := 5) sc__law_right.nd rfl (by first | exact Or.inl rfl | exact Or.inr rfl) (pe_op op_cat (pv 5) (pe_lc (own := [("_law_block_here", 11)]) (g := gName 11) (by rfl) sc__law_right.nd (pi_list (pv 7)) (blkOk_by (own := [("_law_block_here", 11)]) (N := ["_law_sheet", "_law_mine", "_law_grid_here", "_law_values", "_law_line", "_law_pairs", "_law_value_here", "_law_form_here", "_law_told", "_law_row", "_law_cell", "_law_block_here"]) (sc := defScope s__law_right) (by decide +kernel)) (fun _ _ _ _ _ => (pg_name (i := 11) sc__law_right.nd rfl (by first | exact Or.inl rfl | exact Or.inr rfl))) (fun _ _ _ _ _ => (pts_one (pt_cmpR op_ne (pv 6) pe_str (nomark _)))) (fun _ _ _ _ _ => (pe_tup (pa_cons (pv 11) (pa_cons (pv 6) pa_nil)))))))))))
      (pss_cons (ps_set (i := 5) sc__law_right.nd rfl (by first | exact Or.inl rfl | exact Or.inr rfl) (pe_call (ok__law_in_order T) (hr.mono (by decide)) (by rfl) (g__law_in_order T) (F__law_in_order T).kp (b__law_in_order T) .nil pass0 (pa_cons (pv 5) pa_nil)))
      (pss_cons (ps_setLc (i := 8) (own := [("_law_block_here", 11), ("_law_value_here", 6)]) (g := gTup K 2 (gCons (gName 11) (gCons (gName 6) gNil))) (by rfl) sc__law_right.nd rfl rfl (sw_true rfl rfl rfl (by decide +kernel)) (pi_list (pe_meth0 (pv 0) (k_Sheet T) (m_Sheet_pairs T) (ok_Sheet_pairs T) (hr.mono (by decide)) (b_Sheet_pairs T) .nil pass0)) (blkOk_by (own := [("_law_block_here", 11), ("_law_value_here", 6)]) (N := ["_law_sheet", "_law_mine", "_law_grid_here", "_law_values", "_law_line", "_law_pairs", "_law_value_here", "_law_form_here", "_law_told", "_law_row", "_law_cell", "_law_block_here"]) (sc := defScope s__law_right) (by decide +kernel)) (fun _ _ _ _ _ => (pg_tup (by rfl) (pgs_cons (pg_name (i := 11) sc__law_right.nd rfl (by first | exact Or.inl rfl | exact Or.inr rfl)) (pgs_cons (pg_name (i := 6) sc__law_right.nd rfl (by first | exact Or.inl rfl | exact Or.inr rfl)) pgs_nil)))) (fun _ _ _ _ _ => pts_nil) (fun _ _ _ _ _ => (pe_tup (pa_cons (pe_call (ok__law_block_told T) (hr.mono (by decide)) (by rfl) (g__law_block_told T) (F__law_block_told T).kp (b__law_block_told T) .nil pass0 (pa_cons (pv 11) pa_nil)) (pa_cons (pv 6) pa_nil)))))
      (pss_cons (ps_if (PW.pt (pw_or (pt_cmpR (op_neD hr.units) (pv 8) (pv 5) (nomark _)) (pw_or (pt_cmpR op_ne (pe_callB (lenO (ok_Sheet___len__ T) (hr.mono (by decide)) (m_Sheet___len__ T) (b_Sheet___len__ T) pass0) (by rfl) (z_len T) PySem.boot_len (pa_cons (pv 0) pa_nil)) (pe_callB (lenK (K := K) (by rfl)) (by rfl) (z_len T) PySem.boot_len (pa_cons (pv 5) pa_nil)) (nomark _)) (pw_or1 (pt_cmpR (op_neD hr.units) (pe_meth0 (pv 0) (k_Sheet T) (m_Sheet_told T) (ok_Sheet_told T) (hr.mono (by decide)) (b_Sheet_told T) .nil pass0) (pe_callB (cr_sortS rfl) (by rfl) (z_sorted T) (by decide +kernel) (pa_cons (pe_callTy (cr_setS rfl) (by rfl) (z_set T) (by decide +kernel) (pa_cons (pv 3) pa_nil)) pa_nil)) (nomark _)))))) (pss_one (ps_ret pe_bl)) pss_nil)
      (pss_cons (ps_for PassesOwn.never rfl (pi_list (pe_dget (Nat.lt_of_le_of_lt (Nat.add_le_add_left (by decide : 1 ≤ 64) _) hr.units) (pv 1) pe_str (fun _ _ => rfl))) (pg_name (i := 9) sc__law_right.nd rfl (by first | exact Or.inl rfl | exact Or.inr rfl)) (pss_cons (ps_set (i := 10) sc__law_right.nd rfl (by first | exact Or.inl rfl | exact Or.inr rfl) (pe_tup (pa_cons (pv 9) (pa_cons (pe_ix (ixLK (K := K) (by rfl)) (pe_dget (Nat.lt_of_le_of_lt (Nat.add_le_add_left (by decide : 1 ≤ 64) _) hr.units) (pv 1) pe_str (fun _ _ => rfl)) (pe_un un_neg pe_int) (fun _ _ => rfl)) pa_nil))))
      (pss_one (ps_if (pt_cmpR op_ne (pe_meth (pv 0) (k_Sheet T) (m_Sheet_value T) (ok_Sheet_value T) (hr.mono (by decide)) (b_Sheet_value T) .nil passN (pa_cons (pv 10) pa_nil)) (pe_call (ok__law_value T) (hr.mono (by decide)) (by rfl) (g__law_value T) (F__law_value T).kp (b__law_value T) .nil pass0 (pa_cons (pe_dget (Nat.lt_of_le_of_lt (Nat.add_le_add_left (by decide : 1 ≤ 64) _) hr.units) (pv 1) pe_str (fun _ _ => rfl)) (pa_cons (pv 10) pa_nil))) (nomark _)) (pss_one (ps_ret pe_bl)) pss_nil))))
      (pss_cons (ps_expr (pe_bm0 PySem.F.plainAttrs_list PySem.F.slot_list_clear PySem.F.type_list_clear mt_clear (pe_meth0 (pv 0) (k_Sheet T) (m_Sheet_pairs T) (ok_Sheet_pairs T) (hr.mono (by decide)) (b_Sheet_pairs T) .nil pass0)))
      (pss_cons (ps_expr (pe_bm PySem.F.plainAttrs_list PySem.F.slot_list_append PySem.F.type_list_append mt_append (pe_meth0 (pv 0) (k_Sheet T) (m_Sheet_told T) (ok_Sheet_told T) (hr.mono (by decide)) (b_Sheet_told T) .nil pass0) (pa_cons pe_str pa_nil)))
      (pss_one (ps_ret (pe_cmpR op_eq (pe_callB (lenO (ok_Sheet___len__ T) (hr.mono (by decide)) (m_Sheet___len__ T) (b_Sheet___len__ T) pass0) (by rfl) (z_len T) PySem.boot_len (pa_cons (pv 0) pa_nil)) (pe_callB (lenK (K := K) (by rfl)) (by rfl) (z_len T) PySem.boot_len (pa_cons (pv 5) pa_nil)) (nomark _))))))))))))))), ?_⟩
    obtain ⟨h, n, c, sz, few, hzR, hzC, hd, hv⟩ := ok
    walk_at "go"
    refine ⟨G0, v, m, rfl, e, hM, hd, hzR, hzC, fun G1 H1 r1 s1 h1 => ?_⟩
    walk_at "go"
    refine lstI s1.i (Nat.zero_le _) fun l2 G2 H2 s2 g2 => ?_
    walk_at "go"
    generalize hls : (m.R.map fun x => m.C.map fun c => valF m.ds x c) = ls at h1
    have hfl : ls.flatten.length ≤ 1500 := by rw [← hls, grid_len]; exact sz
    have hbig : 100000 < sizeLine := by decide
    have h12 := IsL.mono (IsL.mono IsS.mono) _ _ _ _ s2.g h1
    refine forG (K := K) (R := IsL IsS) (IsL.mono IsS.mono) h12 s2.i (fun i σ' G' H' => ∃ x o4, σ' = [some (.ref p), some v, some r1, some x, o4, none, none, none, none, none, none, none] ∧ St G2 H2 G' H' ∧ IsL IsS G' x (ls.take i).flatten)
      ⟨.ref l2, none, rfl, Stm.refl s2.i, ⟨l2, _, rfl, g2, .nil⟩⟩ (fun i σ' G' H' _ ⟨_, _, _, s, _⟩ => ⟨s.g, s.i⟩) ?_ ?_
    · rintro i l wl σ1 G3 H3 hi ⟨x, o4, rfl, s3, hx⟩ hl
      walk_at "go"
      have ht : (ls.take (i + 1)).flatten = (ls.take i).flatten ++ l := by rw [take_more hi, List.flatten_append]; simp
      have hb := flat_take hfl (i + 1)
      rw [ht, List.length_append] at hb
      refine catL IsS.mono hx hl s3.i (by omega) fun q G4 H4 s4 h4 => ?_
      walk_at "go"
      exact ⟨G4, _, _, rfl, s3.trans s4, by rw [ht]; exact h4⟩
    · rintro σ' G3 H3 ⟨x0, o4, rfl, s3, hx⟩
      rw [List.take_length, ← hls, atCuts_eq] at hx
      have a3 := (s1.trans s2).trans s3
      have hval : (atCuts (valF m.ds) m.R m.C).length ≤ 1500 := by rw [← atCuts_eq, hls]; exact hfl
      have pk0 := keys_uniq h c
      have hu64 : (uniq (atCuts (valF m.ds) m.R m.C)).length < 64 := by rw [pk0.length_eq, List.length_map]; omega
      walk_at "go"
      refine lstI s3.i (Nat.zero_le _) fun l4 G4 H4 s4 g4 => ?_
      walk_at "go"
      refine x_setS (IsL.mono IsS.mono _ _ _ _ s4.g hx) s4.i (Nat.lt_of_le_of_lt (Nat.succ_le_succ hval) (by decide)) fun p5 H5 s5 g5 => ?_
      walk_at "go"
      refine x_sortS (G := G4) g5 s5.i hu64 fun G6 H6 r6 ys s6 py so hy => ?_
      have a6 := ((a3.trans s4).trans s5).trans s6
      have e36 : Ex G3 G6 := s4.g.trans (s5.g.trans s6.g)
      have e26 : Ex G2 G6 := s3.g.trans e36
      have g46 := s6.g _ _ g4
      have hx0 := IsL.mono IsS.mono _ _ _ _ e36 hx
      clear g5 s5 s4 s3 hx g4
      have pk6 : ys.Perm (hs.map (·.1)) := py.trans pk0
      have okz : ∀ z ∈ ys, okV z = true ∧ z.cps.size ≤ 1000 := fun z hz => by
        obtain ⟨u, hu, e1⟩ := List.mem_map.mp (pk6.mem_iff.mp hz)
        rw [← e1]; exact hv u hu
      have hFk : ∀ z, lform m.R (ls.map (runsZ m.C z)) = (getH hs z).getD [] := fun z => by
        rw [← hls, List.map_map]
        have er : (runsZ m.C z ∘ fun x => m.C.map fun c => valF m.ds x c) = lrow (valF m.ds) m.C z := by
          funext x
          show lruns m.C ((m.C.map fun c => valF m.ds x c).map fun a => decide (a = z)) = _
          rw [List.map_map]; rfl
        rw [er]
        exact lform_get h n c z
      have hls2 : ∀ l ∈ ls, m.C.length = l.length := fun l hl => by
        rw [← hls] at hl
        obtain ⟨x, _, rfl⟩ := List.mem_map.mp hl
        rw [List.length_map]
      have hlsl : m.R.length = ls.length := by rw [← hls, List.length_map]
      have hone : ∀ z, ∀ x ∈ lfRaw (lfAt m.R (ls.map (runsZ m.C z)) m.R.length), ∀ y ∈ lfRaw (lfAt m.R (ls.map (runsZ m.C z)) m.R.length), bkey x = bkey y → x = y := fun z => by
        have e1 : ls.map (runsZ m.C z) = m.R.map (lrow (valF m.ds) m.C z) := by
          rw [← hls, List.map_map]
          refine List.map_congr_left fun x _ => ?_
          show lruns m.C ((m.C.map fun c => valF m.ds x c).map fun a => decide (a = z)) = _
          rw [List.map_map]; rfl
        rw [e1]
        unfold lfAt
        rw [List.take_of_length_le (by rw [List.length_zip]; omega)]
        exact form_one c n z
      have hgl : ∀ z, ((getH hs z).getD []).length ≤ 1500 := fun z => Nat.le_trans ((h.get z).len (c.cut.sv z)) sz
      have hrp : (rawP hs).length ≤ 75000 := by
        have := rawP_len (hs := hs) (n := 1500) fun u hu => Nat.le_trans ((h.cn u hu).len (c.cut.sv u.1)) sz
        have : hs.length * 1500 ≤ 50 * 1500 := Nat.mul_le_mul_right _ (by omega)
        omega
      have lpp : (lpairs (fun z => (getH hs z).getD []) ys).Perm (rawP hs) := lpairs_perm h.kn pk6 fun z _ => rfl
      have hlp : (lpairs (fun z => (getH hs z).getD []) ys).length ≤ 75000 := by rw [lpp.length_eq]; exact hrp
      obtain ⟨pm, dd, rr, cc, rfl, hm⟩ := hM
      have h16 := IsL.mono (IsL.mono IsS.mono) _ _ _ _ (s2.g.trans e26) h1
      refine forG (K := K) (R := IsS) IsS.mono hy s6.i (fun i σ' G' H' => ∃ x o6 o7 o11, σ' = [some (.ref p), some (.ref pm), some r1, some x0, o4, some x, o6, o7, none, none, none, o11] ∧ St G6 H6 G' H' ∧ IsL IsTP G' x (lpairs (fun z => (getH hs z).getD []) (ys.take i)))
        ⟨.ref l4, none, none, none, rfl, Stm.refl s6.i, ⟨l4, _, rfl, g46, .nil⟩⟩ (fun i σ' G' H' _ ⟨_, _, _, _, _, s, _⟩ => ⟨s.g, s.i⟩) ?_ ?_
      · rintro i z wz σ1 G7 H7 hi ⟨x, o6, o7, o11, rfl, s7, hx⟩ hz
        cases hz
        have a7 := a6.trans s7
        have hzy : z ∈ ys := List.mem_of_getElem? hi
        walk_at "go"
        refine dgetF (a7.i _ _ (a7.g _ _ hm.o)) (mine_rows dd rr cc) ?_
        walk_at "go"
        refine dgetF (a7.i _ _ (a7.g _ _ hm.o)) (mine_cols dd rr cc) ?_
        walk_at "go"
        refine ⟨G7, rr, cc, r1, z, m.R, m.C, ls, rfl, s7.i, IsL.mono IsI.mono _ _ _ _ a7.g hm.R, IsL.mono IsI.mono _ _ _ _ a7.g hm.C, IsL.mono (IsL.mono IsS.mono) _ _ _ _ s7.g h16, hlsl, hzR, hzC, hls2, hone z, fun G8 H8 r8 s8 h8 => ?_⟩
        rw [hFk z] at h8
        have a8 := a7.trans s8
        walk_at "go"
        refine mS (MuS.st ms a8) (by decide +kernel) ?_
        walk_at "go"
        refine ⟨G8, p, d, kvs, hs, .str z, true, rfl, s8.i, MuS.st ms a8, hD.mono a8.g, .inr ⟨z, rfl, (okz z hzy).2, (okz z hzy).1.symm⟩, (fun z => nomatch z), fun z' ez _ G9 H9 r9 s9 h9 => ?_⟩
        cases ez
        walk_at "go"
        refine mA h9 s9.i (by decide +kernel) ?_
        walk_at "go"
        obtain ⟨a, dx, q, rfl, ga, _, us, eq', gq, pb⟩ := h9
        cases eq'
        refine ⟨G9, a, dx, q, us, rfl, s9.i, ga, gq, fun G10 H10 r10 s10 g10 => ?_⟩
        have hb10 : IsL (IsBlk K) G10 (.ref r10) ((getH hs z).getD []) := ⟨r10, us, rfl, g10, paired_imp (fun a b q => IsBlk.mono _ _ a b s10.g q) pb⟩
        refine lcG (R := IsBlk K) (S := IsTB) IsBlk.mono IsTB.mono (fun _ => true) (fun b => b) s10.i hb10 (Nat.lt_of_le_of_lt (hgl z) (by decide)) (fun b wb G11 H11 N0 N1 _ s11 hb n0 n1 => ?_) fun G11 H11 D11 s11 hD11 => ?_
        · walk_at "go"
          refine ⟨rfl, ?_⟩
          walk_at "go"
          exact ⟨G11, wb, b, rfl, s11.i, hb, fun G12 H12 r12 s12 h12 => n1 _ _ _ s12 h12 rfl⟩
        rw [List.filter_eq_self.mpr (fun _ _ => rfl), List.map_id'] at hD11
        walk_at "go"
        have h811 := IsL.mono IsTB.mono _ _ _ _ ((s9.trans s10).g.trans s11.g) h8
        refine neTBs hD11 h811 s11.i ⟨_, rfl, ?_⟩
        walk_at "go"
        refine lcG (R := IsTB) (S := IsTP) IsTB.mono IsTP.mono (fun _ => !decide (z = Str.ofString "")) (fun b => (b, z)) s11.i h811 (Nat.lt_of_le_of_lt (hgl z) (by decide)) (fun b wb G12 H12 N0 N1 _ s12 hb n0 n1 => ?_) fun G12 H12 D12 s12 hD12 => ?_
        · walk_at "go"
          refine ⟨rfl, ?_⟩
          walk_at "go"
          rw [eqStr]
          refine ite_b2 (fun h1 => ?_) (fun h1 => ?_)
          · walk_at "go"
            refine tupI s12.i (by show 2 ≤ 1000; decide) fun t G13 H13 s13 g13 => ?_
            exact n1 _ _ _ s13 ⟨t, _, _, rfl, g13, IsTB.mono _ _ _ _ s13.g hb, rfl⟩ h1
          · exact n0 _ _ (Stm.refl s12.i) h1
        walk_at "go"
        have a712 : St G7 H7 G12 H12 := ((s8.trans s9).trans (s10.trans s11)).trans s12
        have hd12 : (((getH hs z).getD []).filter fun _ => !decide (z = Str.ofString "")).map (fun b => (b, z)) = if z = Str.ofString "" then [] else ((getH hs z).getD []).map fun b => (b, z) := by
          by_cases ez : z = Str.ofString ""
          · rw [if_pos ez, List.filter_eq_nil_iff.mpr fun _ _ => by rw [decide_eq_true ez]; decide]; rfl
          · rw [if_neg ez, List.filter_eq_self.mpr fun _ _ => by rw [decide_eq_false ez]; rfl]
        rw [hd12] at hD12
        have more := lpairs_more (F := fun z => (getH hs z).getD []) hi
        have part := lpairs_part (F := fun z => (getH hs z).getD []) (ys := ys) (i + 1)
        rw [more, List.length_append] at part
        refine catL IsTP.mono (IsL.mono IsTP.mono _ _ _ _ a712.g hx) hD12 s12.i (by omega) fun q13 G13 H13 s13 h13 => ?_
        walk_at "go"
        refine ⟨G13, _, _, _, _, rfl, (s7.trans a712).trans s13, ?_⟩
        rw [more]
        exact h13
      · rintro σ' G7 H7 ⟨x, o6, o7, o11, rfl, s7, hx⟩
        rw [List.take_length] at hx
        have a7 := a6.trans s7
        walk_at "go"
        refine ⟨G7, x, _, rfl, s7.i, hx, Nat.le_trans hlp (by decide), rawP_keysNd h lpp, fun G8 H8 r8 cells s8 pc sc h8 => ?_⟩
        walk_at "go"
        have a8 := a7.trans s8
        have ms8 := MuS.st ms a8
        have hD8 := hD.mono a8.g
        obtain ⟨zs, hB, ez⟩ := HD.hb hD8
        have hzl : zs.length ≤ 100 := by
          have : (zh zs).length = zs.length := by unfold zh; rw [List.length_map]
          rw [ez] at this; omega
        have hzs : szH (zh zs) = true := by rw [ez]; exact h.sz c.cut sz
        have erz : (rawZ zs).map toP = rawP hs := by rw [rawZ_P hB, ez]
        have erl : (rawZ zs).length = (rawP hs).length := by rw [← erz, List.length_map]
        refine mS ms8 (by decide +kernel) ?_
        walk_at "go"
        refine ⟨G8, p, d, kvs, zs, rfl, s8.i, ms8, hB, hzl, hzs, fun G9 H9 r9 ws zz hr9 s9 m9 p9 hp9 ho9 => ?_⟩
        obtain ⟨s9', g9⟩ := freeze m9 s9.i
        have a9' : Stm [r9] G8 H8 (upd G9 r9 (.lst ws)) H9 := (St.up s9).trans s9'
        have s89 : St G8 H8 (upd G9 r9 (.lst ws)) H9 := Stm.fresh (Stm.refl s8.i) a9' fun q hq => by
          rw [List.mem_singleton.mp hq]; exact hr9
        have hz9 : IsL (IsPrR K) (upd G9 r9 (.lst ws)) (.ref r9) zz := ⟨r9, ws, rfl, g9, paired_imp (fun a b q => IsPrR.mono _ _ a b s9'.g q) p9⟩
        have hzzl : zz.length ≤ 75000 := by rw [hp9.length_eq, erl]; exact hrp
        generalize upd G9 r9 (.lst ws) = G9 at s89 hz9
        clear a9' s9' g9 m9 p9 s9
        refine lcG (R := IsPrR K) (S := IsTP) IsPrR.mono IsTP.mono (fun _ => true) toP s89.i hz9 (Nat.lt_of_le_of_lt hzzl (by decide)) (fun z3 wz G10 H10 N0 N1 _ s10 hw n0 n1 => ?_) fun G10 H10 D10 s10 hD10 => ?_
        · obtain ⟨t, rfl, ht, hb⟩ := hw
          refine x_gtup (s10.i _ _ ht) rfl ?_
          walk_at "go"
          refine ⟨rfl, ?_⟩
          walk_at "go"
          refine ⟨G10, z3.2.2, z3.1, rfl, s10.i, hb, fun G11 H11 r11 s11 h11 => ?_⟩
          walk_at "go"
          refine tupI s11.i (by show 2 ≤ 1000; decide) fun t12 G12 H12 s12 g12 => ?_
          exact n1 _ _ _ (s11.trans s12) ⟨t12, _, _, rfl, g12, IsTB.mono _ _ _ _ s12.g h11, rfl⟩ rfl
        rw [List.filter_eq_self.mpr (fun _ _ => rfl)] at hD10
        walk_at "go"
        have ho10 : (zz.map toP).Pairwise fun a b => lexLe (pk a) (pk b) := List.pairwise_map.mpr ho9
        have hp10 : (zz.map toP).Perm (rawP hs) := by rw [← erz]; exact hp9.map toP
        have eord := order_eq h lpp pc sc hp10 ho10
        rw [← eord] at hD10
        have s810 := s89.trans s10
        have h810 := IsL.mono IsTP.mono _ _ _ _ s810.g h8
        have okp : ∀ q ∈ lorder (lpairs (fun z => (getH hs z).getD []) ys) cells, PyData.strOk q.2 = true := fun q hq => by
          rw [eord] at hq
          obtain ⟨u, hu, e1, _⟩ := rawP_mem (hp10.mem_iff.mp hq)
          rw [← e1]
          exact okV_strOk (hv u hu).1
        refine neTPs okp hD10 h810 s10.i ⟨_, rfl, ?_⟩
        walk_at "go"
        have a10 := a8.trans s810
        have ms10 := MuS.st ms a10
        have hB10 := hB.mono s810.g
        obtain ⟨dx10, mo10⟩ := ms10.o
        have elo : (lorder (lpairs (fun z => (getH hs z).getD []) ys) cells).length = (rawP hs).length := by rw [eord, hp10.length_eq]
        have hlim : (rawZ zs).length < 2 ^ 62 := Nat.lt_of_le_of_lt (show _ ≤ 75000 by rw [erl]; exact hrp) (by decide)
        refine ⟨p, dx10, _, rfl, mo10.1, G10, p, d, kvs, zs, rfl, s10.i, ms10, hB10, hzl, hzs, fun G11 H11 s11 => ⟨_, rfl, hlim, ?_⟩⟩
        walk_at "go"
        have h811 := IsL.mono IsTP.mono _ _ _ _ s11.g h810
        refine lenL h811 s11.i ?_
        walk_at "go"
        rw [elo, erl]
        refine ite_F (by rw [decide_eq_true rfl]; rfl) ?_
        have a11 := a10.trans s11
        have ms11 := MuS.st ms a11
        have hD11 := hD.mono a11.g
        walk_at "go"
        refine mS ms11 (by decide +kernel) ?_
        walk_at "go"
        refine ⟨G11, p, d, kvs, hs, rfl, s11.i, ms11, hD11, by omega, fun H12 r12 ys12 hr12 s12 hp12 ho12 m12 => ?_⟩
        obtain ⟨s12', g12⟩ := freeze m12 s12.i
        have s112 : St G11 H11 (upd G11 r12 (.lst (ys12.map V.str))) H12 := Stm.fresh (Stm.refl s11.i) ((St.up s12).trans s12') fun q hq => by
          rw [List.mem_singleton.mp hq]; exact hr12
        have hy12 : IsL IsS (upd G11 r12 (.lst (ys12.map V.str))) (.ref r12) ys12 := ⟨r12, _, rfl, g12, strs_paired ys12⟩
        generalize upd G11 r12 (.lst (ys12.map V.str)) = G12 at s112 hy12
        clear s12' g12 m12 s12
        walk_at "go"
        have e612 : Ex G6 G12 := s7.g.trans (s8.g.trans (s810.g.trans (s11.g.trans s112.g)))
        refine x_setS (IsL.mono IsS.mono _ _ _ _ e612 hx0) s112.i (Nat.lt_of_le_of_lt (Nat.succ_le_succ hval) (by decide)) fun p13 H13 s13 g13 => ?_
        walk_at "go"
        refine x_sortS (G := G12) g13 s13.i hu64 fun G14 H14 r14 ys14 s14 py14 so14 hy14 => ?_
        have s1214 := s13.trans s14
        have eys : ys12 = ys14 := sortedS_uniq (hp12.trans (pk0.symm.trans py14.symm)) ho12 so14
        subst eys
        have okz12 : ∀ z ∈ ys12, PyData.strOk z = true := fun z hz => by
          obtain ⟨u, hu, e1⟩ := List.mem_map.mp (hp12.mem_iff.mp hz)
          rw [← e1]; exact okV_strOk (hv u hu).1
        refine neStrs okz12 (IsL.mono IsS.mono _ _ _ _ s1214.g hy12) hy14 s14.i ⟨_, rfl, ?_⟩
        walk_at "go"
        have a14 := a11.trans (s112.trans s1214)
        refine dgetF (a14.i _ _ (a14.g _ _ hm.o)) (mine_rows dd rr cc) ?_
        have hlast : ∃ y, m.C.getLast? = some y := by
          cases hcl : m.C.getLast? with
          | some y => exact ⟨y, rfl⟩
          | none => have := c.cut.2.1; rw [List.getLast?_eq_none_iff.mp hcl] at this; cases this
        obtain ⟨y, hyl⟩ := hlast
        have hy1 : 1 ≤ y := c.lc y (List.mem_of_getLast? hyl)
        refine forG (K := K) (R := IsI) IsI.mono (IsL.mono IsI.mono _ _ _ _ a14.g hm.R) s14.i (fun i σ' G' H' => ∃ o9 o10, σ' = [some (.ref p), some (.ref pm), some r1, some x0, o4, some r8, o6, o7, some (.ref D10), o9, o10, o11] ∧ St G14 H14 G' H')
          ⟨none, none, rfl, Stm.refl s14.i⟩ (fun i σ' G' H' _ ⟨_, _, _, s⟩ => ⟨s.g, s.i⟩) ?_ ?_
        · rintro i xr wx σ1 G15 H15 hi ⟨o9, o10, rfl, s15⟩ hx
          cases hx
          have hx1 : 1 ≤ xr := c.lr xr (List.mem_of_getElem? hi)
          have a15 := a14.trans s15
          walk_at "go"
          refine dgetF (a15.i _ _ (a15.g _ _ hm.o)) (mine_cols dd rr cc) ?_
          walk_at "go"
          refine ixLast (IsL.mono IsI.mono _ _ _ _ a15.g hm.C) s15.i hyl fun wy hwy => ?_
          cases hwy
          walk_at "go"
          refine tupI s15.i (by show 2 ≤ 1000; decide) fun t16 G16 H16 s16 g16 => ?_
          walk_at "go"
          have a16 := a15.trans s16
          refine mS (MuS.st ms a16) (by decide +kernel) ?_
          walk_at "go"
          refine ⟨G16, p, d, kvs, hs, .ref t16, true, rfl, s16.i, MuS.st ms a16, hD.mono a16.g, by omega, h.sz c.cut sz, cell_ok g16 hx1 hy1, (fun z => nomatch z), fun _ => ⟨t16, xr, y, valF m.ds xr y, rfl, g16, hx1, hy1, by rw [valH_one h n hx1 hy1]; rfl, fun G17 H17 s17 => ?_⟩⟩
          have a17 := a16.trans s17
          walk_at "go"
          refine dgetF (a17.i _ _ (a17.g _ _ hm.o)) (mine_deeds dd rr cc) ?_
          walk_at "go"
          refine ⟨G17, dd, .ref t16, m.ds, (xr, y), rfl, s17.i, IsL.mono IsFill.mono _ _ _ _ a17.g hm.ds, hd, ⟨t16, _, _, rfl, s17.g _ _ g16, rfl, rfl⟩, fun G18 H18 s18 => ?_⟩
          walk_at "go"
          refine ite_F (by rw [decide_eq_true rfl]; rfl) ?_
          walk_at "go"
          exact ⟨G18, _, _, rfl, ((s15.trans s16).trans s17).trans s18⟩
        · rintro σ' G15 H15 ⟨o9, o10, rfl, s15⟩
          have a15 := a14.trans s15
          have ms15 := MuS.st ms a15
          walk_at "go"
          refine mS ms15 (by decide +kernel) ?_
          walk_at "go"
          have hB15 := hB.mono (s810.trans (s11.trans (s112.trans (s1214.trans s15)))).g
          refine ⟨G15, p, d, kvs, zs, rfl, s15.i, ms15, hB15, hzl, hzs, fun G16 H16 r16 ws16 _ hr16 s16 m16 _ _ _ => ⟨x_tyL m16, ?_⟩⟩
          refine clearM m16 s16.i fun H17 s17 => ?_
          have s1517 : St G15 H15 G16 H17 := Stm.fresh s16 s17 fun q hq => by rw [List.mem_singleton.mp hq]; exact hr16
          clear s16 s17 m16
          walk_at "go"
          have a17 := a15.trans s1517
          refine mS (MuS.st ms a17) (by decide +kernel) ?_
          walk_at "go"
          refine ⟨G16, p, d, kvs, hs, rfl, s1517.i, MuS.st ms a17, hD.mono a17.g, by omega, fun H18 r18 ys18 hr18 s18 hp18 ho18 m18 => ⟨x_tyL m18, ?_⟩⟩
          walk_at "go"
          have hl18 : (ys18.map V.str).length < sizeLine := by
            rw [List.length_map, hp18.length_eq, List.length_map]; omega
          refine x_app m18 s18.i hl18 fun H19 s19 m19 => ?_
          have s1719 : St G16 H17 G16 H19 := Stm.fresh s18 s19 fun q hq => by rw [List.mem_singleton.mp hq]; exact hr18
          clear s18 s19 m18 m19
          walk_at "go"
          have a19 := a17.trans s1719
          have ms19 := MuS.st ms a19
          obtain ⟨dx19, mo19⟩ := ms19.o
          refine ⟨p, dx19, _, rfl, mo19.1, G16, p, d, kvs, zs, rfl, s1719.i, ms19, hB15.mono (s1517.trans s1719).g, hzl, hzs, fun G20 H20 s20 => ⟨_, rfl, hlim, ?_⟩⟩
          walk_at "go"
          have e820 : Ex G8 G20 := s810.g.trans (s11.g.trans (s112.g.trans (s1214.g.trans (s15.g.trans ((s1517.trans s1719).g.trans s20.g)))))
          refine lenL (IsL.mono IsTP.mono _ _ _ _ e820 h8) s20.i ?_
          walk_at "go"
          rw [elo, erl]
          walk_at "go"
          rw [decide_eq_true rfl]
          exact k G20 H20 (a19.trans s20)
end
end GT

/-! ## LH -/
set_option Elab.async false
set_option linter.all false
set_option maxRecDepth 100000
set_option maxHeartbeats 1000000
namespace GT
open PySem PySem.Spec PyProof.Rows L2 G
local macro_rules | `(tactic| walk_at "ex") => `(tactic| first | exact Ex.refl _ | assumption | exact Stm.g (by assumption) | (refine Ex.trans ?_ (Stm.g (by assumption)); walk_at "ex"))
local macro_rules | `(tactic| walk_at "st") => `(tactic| first | exact Stm.refl (by assumption) | assumption | (refine Stm.trans ?_ (by assumption); walk_at "st"))
local macro_rules | `(tactic| walk_at "i") => `(tactic| first | assumption | exact Stm.i (by assumption))
local macro_rules | `(tactic| walk_at "fact") => `(tactic| first | rfl | exact (rfl : V.non = optV none) | exact (rfl : V.int _ = optV (some _)) | assumption)
local macro_rules | `(tactic| walk_at "g") => `(tactic| first
  | with_reducible refine x_seq ?_
  | with_reducible refine x_next ?_
  | with_reducible refine x_asg ?_
  | with_reducible refine x_ret ?_
  | with_reducible refine x_retN ?_
  | with_reducible refine x_drop ?_
  | with_reducible refine x_ifs ?_
  | ((with_reducible refine' x_var ?hv ?_); (case hv => exact rfl))
  | with_reducible refine x_c ?_
  | with_reducible refine x_op ?_
  | with_reducible refine x_un ?_
  | with_reducible refine x_test ?_
  | with_reducible refine x_B ?_
  | with_reducible refine x_bl ?_
  | with_reducible refine x_and ?_
  | with_reducible refine x_or ?_
  | with_reducible refine x_not ?_
  | with_reducible refine x_andV ?_
  | with_reducible refine x_orV ?_
  | with_reducible refine x_notV ?_
  | with_reducible refine x_ife ?_
  | with_reducible refine x_isN ?_
  | with_reducible refine x_notN ?_
  | with_reducible refine x_nil ?_
  | with_reducible refine x_cons ?_
  | with_reducible refine x_cb ?_
  | with_reducible refine x_call ?_
  | ((with_reducible refine' x_callL ?hv ?_); (case hv => exact rfl))
  | ((with_reducible refine' x_gnameN ?hv ?_); (case hv => (simp only [L2.start, List.map_cons, List.map_nil, List.length_cons, List.length_nil, List.replicate_succ, List.replicate_zero, List.cons_append, List.nil_append, List.set_cons_zero, List.set_cons_succ, Nat.reduceAdd, Nat.reduceSub, Nat.add_one_sub_one]; exact rfl)))
  | with_reducible refine x_gname ?_
  | with_reducible refine x_I0 ?_
  | ((with_reducible refine' x_eq ?hv ?_); (case hv => exact rfl))
  | ((with_reducible refine' x_ne ?hv ?_); (case hv => exact rfl))
  | with_reducible refine x_tupG ?_
  | with_reducible refine x_lstG ?_
  | with_reducible refine x_lc ?_
  | (with_reducible refine x_U ?_)
  | ((with_reducible refine' ite_T ?hv ?_); (case hv => exact rfl))
  | ((with_reducible refine' ite_F ?hv ?_); (case hv => exact rfl))
  | with_reducible refine x_for ?_
  | with_reducible refine x_iEnum ?_
  | with_reducible refine x_iRng1 ?_
  | with_reducible refine x_iList ?_
  | with_reducible refine x_iTup ?_
  | with_reducible refine x_gcons ?_
  | with_reducible refine x_gnil ?_
  | with_reducible refine x_bm ?_
  | with_reducible refine x_fldG ?_
  | with_reducible refine x_meth ?_
  | with_reducible refine x_sl ?_
  | with_reducible refine x_nopart ?_
  | with_reducible refine x_part ?_
  | with_reducible refine x_int ?_
  | with_reducible refine x_yes ?_
  | with_reducible refine x_isNG ?_
  | with_reducible refine x_notNG ?_
  | fail "no step")
local macro_rules | `(tactic| walk_at "g2") => `(tactic| first
  | with_reducible refine x_sfld ?_
  | with_reducible refine x_make ?_
  | with_reducible refine x_dnew ?_
  | with_reducible refine x_lcT ?_
  | with_reducible refine x_lcS ?_
  | with_reducible refine x_disp ?_
  | with_reducible refine x_pcons ?_
  | with_reducible refine x_pnil ?_
  | with_reducible refine x_dnewK ?_
  | with_reducible refine x_dput ?_
  | with_reducible refine x_gsub ?_
  | with_reducible refine x_dget2 ?_
  | with_reducible refine x_litems ?_
  | with_reducible refine x_bmX ?_
  | with_reducible refine x_ckw ?_
  | with_reducible refine L2Z.x_methS ?_
  | with_reducible refine L2Z.x_methN ?_
  | with_reducible refine x_callSD ?_
  | with_reducible refine x_lcZ ?_
  | with_reducible refine x_iZip ?_
  | with_reducible refine x_dget ?_
  | with_reducible refine x_revL ?_
  | with_reducible refine x_bm0 ?_
  | with_reducible refine x_lcRng ?_
  | walk_at "g")
local macro_rules | `(tactic| walk_at "go") => `(tactic| repeat' walk_at "g2")

section
variable {P : Program} {w : World} {K : PySem.W.Frag} {mg : Str → Option Value} {base : Heap}
theorem drawG {K' : PySem.W.Frag} {G H : Hp} {p : Addr} {c n : Int} {Q : VK} {E : XK} (e : Ex G H) (m : MuW G H p c) (c0 : 0 ≤ c) (c1 : c < 1000000) (n0 : 0 < n) (n1 : n < 1073741824)
    (k : ∀ H1 i c', 0 ≤ i → i < n → c ≤ c' → c' ≤ c + 1 → Stm [p] G H G H1 → MuW G H1 p c' → Q (.int i) H1) : sp_law_draw K' [.ref p, .int n] H Q E := ⟨G, p, c, n, rfl, e, m, c0, c1, n0, n1, k⟩
theorem mkTB {G : Hp} {t : Addr} (b : Blk) (h : G t = some (.tup [.int b.t, .int b.l, optV b.b, optV b.r])) : IsTB G (.ref t) b := ⟨t, rfl, h⟩
def blks (t l b r : Int) : List Blk := [⟨t, l, some t, some l⟩, ⟨t, 1, some b, none⟩, ⟨1, l, none, some r⟩, ⟨t, l, none, some r⟩] ++ [⟨t, l, some b, none⟩, ⟨t, l, none, none⟩] ++ (List.replicate 6 [(⟨t, l, some b, some r⟩ : Blk)]).flatten
theorem blks_ok {t l b r : Int} (ht : 1 ≤ t) (hl : 1 ≤ l) (hb : t ≤ b) (hr : l ≤ r) : ∀ x ∈ blks t l b r, okB x = true := by
  intro x hx
  rw [okB_iff]
  simp only [blks, List.replicate_succ, List.replicate_zero, List.flatten_cons, List.flatten_nil, List.cons_append, List.nil_append, List.append_nil, List.mem_cons, List.not_mem_nil, or_false] at hx
  rcases hx with rfl | rfl | rfl | rfl | rfl | rfl | rfl | rfl | rfl | rfl | rfl | rfl <;> refine ⟨by first | assumption | exact Int.le_refl 1, by first | assumption | exact Int.le_refl 1, fun e he => ?_, fun e he => ?_⟩ <;> cases he <;> first | exact Int.le_refl _ | assumption | omega
def sp_law_block (K : PySem.W.Frag) : Sp := fun vs H Q _ => ∃ G p c f, vs = [.ref p, .int f] ∧ Ex G H ∧ MuW G H p c ∧ 0 ≤ c ∧ c < 999990 ∧ 0 < f ∧ f < 1073741824 ∧
  ∀ G1 H1 c' r b, c ≤ c' → c' ≤ c + 5 → Stm [p] G H G1 H1 → MuW G1 H1 p c' → IsTB G1 r b → okB b = true → Q r H1
theorem sc__law_block : FnScope ["_law_well_here", "_law_far", "_law_top", "_law_left", "_law_bottom", "_law_right_here", "_law_ends"] ["_law_well_here", "_law_far"] (defScope s__law_block) := ⟨rfl, rfl, rfl, by decide +kernel, rfl, by decide +kernel, by decide +kernel⟩
theorem ok__law_block (T : TX K mg) : FnOk P w K mg base CX0 2 (f__law_block K) (fdO K (f__law_block K)) ["_law_well_here", "_law_far"] (sp_law_block K) := by
  refine (F__law_block T).ok sc__law_block (fun vs H Q E h => ?_) (fun cdv A outer s H vs Q E hr h => ?_)
  · obtain ⟨_, _, _, _, rfl, _⟩ := h; rfl
  · obtain ⟨G0, p, c, f, rfl, e, mw, c0, c9, f0, f1, k⟩ := h
    refine ⟨_, PSs.nox (pss_cons (ps_set (i := 2) sc__law_block.nd rfl (by first | exact Or.inl rfl | exact Or.inr rfl) (pe_op op_add pe_int (pe_call (ok__law_draw T) (hr.mono (by decide)) (by rfl) (g__law_draw T) (F__law_draw T).kp (b__law_draw T) .nil pass0 (pa_cons (pv 0) (pa_cons (pv 1) pa_nil)))))
      (pss_cons (ps_set (i := 3) sc__law_block.nd rfl (by first | exact Or.inl rfl | exact Or.inr rfl) (pe_op op_add pe_int (pe_call (ok__law_draw T) (hr.mono (by decide)) (by rfl) (g__law_draw T) (F__law_draw T).kp (b__law_draw T) .nil pass0 (pa_cons (pv 0) (pa_cons (pv 1) pa_nil)))))
      (pss_cons (ps_set (i := 4) sc__law_block.nd rfl (by first | exact Or.inl rfl | exact Or.inr rfl) (pe_op op_add (pv 2) (pe_call (ok__law_draw T) (hr.mono (by decide)) (by rfl) (g__law_draw T) (F__law_draw T).kp (b__law_draw T) .nil pass0 (pa_cons (pv 0) (pa_cons (pv 1) pa_nil)))))
      (pss_cons (ps_set (i := 5) sc__law_block.nd rfl (by first | exact Or.inl rfl | exact Or.inr rfl) (pe_op op_add (pv 3) (pe_call (ok__law_draw T) (hr.mono (by decide)) (by rfl) (g__law_draw T) (F__law_draw T).kp (b__law_draw T) .nil pass0 (pa_cons (pv 0) (pa_cons (pv 1) pa_nil)))))
      (pss_cons (ps_set (i := 6) sc__law_block.nd rfl (by first | exact Or.inl rfl | exact Or.inr rfl) (pe_lst (pa_cons (pe_tup (pa_cons (pv 2) (pa_cons (pv 3) (pa_cons (pv 2) (pa_cons (pv 3) pa_nil))))) (pa_cons (pe_tup (pa_cons (pv 2) (pa_cons pe_int (pa_cons (pv 4) (pa_cons pe_non pa_nil))))) (pa_cons (pe_tup (pa_cons pe_int (pa_cons (pv 3) (pa_cons pe_non (pa_cons (pv 5) pa_nil))))) (pa_cons (pe_tup (pa_cons (pv 2) (pa_cons (pv 3) (pa_cons pe_non (pa_cons (pv 5) pa_nil))))) pa_nil))))))
      (pss_cons (ps_set (i := 6) sc__law_block.nd rfl (by first | exact Or.inl rfl | exact Or.inr rfl) (pe_op op_cat (pv 6) (pe_lst (pa_cons (pe_tup (pa_cons (pv 2) (pa_cons (pv 3) (pa_cons (pv 4) (pa_cons pe_non pa_nil))))) (pa_cons (pe_tup (pa_cons (pv 2) (pa_cons (pv 3) (pa_cons pe_non (pa_cons pe_non pa_nil))))) pa_nil)))))
      (pss_one (ps_ret (pe_ix (ixLK (K := K) (by rfl)) (pe_op op_cat (pv 6) (pe_op op_rep (pe_lst (pa_cons (pe_tup (pa_cons (pv 2) (pa_cons (pv 3) (pa_cons (pv 4) (pa_cons (pv 5) pa_nil))))) pa_nil)) pe_int)) (pe_call (ok__law_draw T) (hr.mono (by decide)) (by rfl) (g__law_draw T) (F__law_draw T).kp (b__law_draw T) .nil pass0 (pa_cons (pv 0) (pa_cons pe_int pa_nil))) (fun _ _ => rfl)))))))))), ?_⟩
    walk_at "go"
    refine drawG e mw c0 (by omega) f0 f1 fun H1 d1 c1 d10 _ c10 c11 s1 m1 => ?_
    walk_at "go"
    refine drawG s1.i m1 (by omega) (by omega) f0 f1 fun H2 d2 c2 d20 _ c20 c21 s2 m2 => ?_
    walk_at "go"
    refine drawG s2.i m2 (by omega) (by omega) f0 f1 fun H3 d3 c3 d30 _ c30 c31 s3 m3 => ?_
    walk_at "go"
    refine drawG s3.i m3 (by omega) (by omega) f0 f1 fun H4 d4 c4 d40 _ c40 c41 s4 m4 => ?_
    walk_at "go"
    have a4 := ((s1.trans s2).trans s3).trans s4
    refine tupI a4.i (by show 4 ≤ 1000; decide) fun t1 Ga Ha sa ga => ?_
    walk_at "go"
    refine tupI sa.i (by show 4 ≤ 1000; decide) fun t2 Gb Hb sb gb => ?_
    walk_at "go"
    refine tupI sb.i (by show 4 ≤ 1000; decide) fun t3 Gc Hc sc gc => ?_
    walk_at "go"
    refine tupI sc.i (by show 4 ≤ 1000; decide) fun t4 Gd Hd sd gd => ?_
    walk_at "go"
    refine lstI sd.i (by show 4 ≤ 1000; decide) fun l5 Ge He se ge => ?_
    walk_at "go"
    refine tupI se.i (by show 4 ≤ 1000; decide) fun t6 Gf Hf sf gf => ?_
    walk_at "go"
    refine tupI sf.i (by show 4 ≤ 1000; decide) fun t7 Gg Hg sg gg => ?_
    walk_at "go"
    refine lstI sg.i (by show 2 ≤ 1000; decide) fun l8 Gh Hh sh gh => ?_
    walk_at "go"
    have hA : IsL IsTB Ge (.ref l5) [⟨1 + d1, 1 + d2, some (1 + d1), some (1 + d2)⟩, ⟨1 + d1, 1, some (1 + d1 + d3), none⟩, ⟨1, 1 + d2, none, some (1 + d2 + d4)⟩, ⟨1 + d1, 1 + d2, none, some (1 + d2 + d4)⟩] :=
      ⟨l5, _, rfl, ge, .cons (mkTB _ (((sb.trans sc).trans sd).g.trans se.g _ _ ga)) (.cons (mkTB _ ((sc.trans sd).g.trans se.g _ _ gb)) (.cons (mkTB _ (sd.g.trans se.g _ _ gc)) (.cons (mkTB _ (se.g _ _ gd)) .nil)))⟩
    have hB : IsL IsTB Gh (.ref l8) [⟨1 + d1, 1 + d2, some (1 + d1 + d3), none⟩, ⟨1 + d1, 1 + d2, none, none⟩] :=
      ⟨l8, _, rfl, gh, .cons (mkTB _ (sg.g.trans sh.g _ _ gf)) (.cons (mkTB _ (sh.g _ _ gg)) .nil)⟩
    refine catL IsTB.mono (IsL.mono IsTB.mono _ _ _ _ ((sf.trans sg).g.trans sh.g) hA) hB sh.i (by show 6 ≤ sizeLine; decide) fun l9 Gi Hi si hi => ?_
    walk_at "go"
    refine tupI si.i (by show 4 ≤ 1000; decide) fun t10 Gj Hj sj gj => ?_
    walk_at "go"
    refine lstI sj.i (by show 1 ≤ 1000; decide) fun l11 Gk Hk sk gk => ?_
    walk_at "go"
    have hC : IsL IsTB Gk (.ref l11) [⟨1 + d1, 1 + d2, some (1 + d1 + d3), some (1 + d2 + d4)⟩] := ⟨l11, _, rfl, gk, .cons (mkTB _ (sk.g _ _ gj)) .nil⟩
    refine repG (n := 6) IsTB.mono hC sk.i (by show 1 * 6 ≤ 1000; decide) (by decide) fun Gl Hl l12 sl hl => ?_
    walk_at "go"
    refine catL IsTB.mono (IsL.mono IsTB.mono _ _ _ _ ((sj.trans sk).g.trans sl.g) hi) hl sl.i (by show 12 ≤ sizeLine; decide) fun l13 Gm Hm sm hm => ?_
    have hall : IsL IsTB Gm (.ref l13) (blks (1 + d1) (1 + d2) (1 + d1 + d3) (1 + d2 + d4)) := hm
    have st : St G0 H4 Gm Hm := ((((((sa.trans sb).trans sc).trans sd).trans se).trans ((sf.trans sg).trans sh)).trans ((si.trans sj).trans sk)).trans (sl.trans sm)
    walk_at "go"
    refine drawG sm.i (MuW.st m4 st) (by omega) (by omega) (by decide) (by decide) fun H5 d5 c5 d50 d51 c50 c51 s5 m5 => ?_
    walk_at "go"
    obtain ⟨j, rfl⟩ := Int.eq_ofNat_of_zero_le d50
    have hj : j < (blks (1 + d1) (1 + d2) (1 + d1 + d3) (1 + d2 + d4)).length := by show j < 12; omega
    have hle : c5 ≤ c + 5 := by omega
    refine x_ixL (j := j) hall s5.i (List.getElem?_eq_getElem hj) rfl fun wb hwb => ?_
    exact k _ H5 c5 wb _ (by omega) hle ((a4.trans (St.up st)).trans s5) m5 hwb (blks_ok (by omega) (by omega) (by omega) (by omega) _ (List.getElem_mem hj))
def sp_law_area (K : PySem.W.Frag) : Sp := fun vs H Q _ => ∃ G v bs, vs = [v] ∧ Ex G H ∧ IsL IsTB G v bs ∧ (∀ b ∈ bs, okB b = true) ∧ bs.length ≤ 10 ∧ ∀ G1 H1 r, St G H G1 H1 → IsAr K G1 r (norm bs) → Q r H1
theorem sc__law_area : FnScope ["_law_blocks", "_law_block_here"] ["_law_blocks"] (defScope s__law_area) := ⟨rfl, rfl, rfl, by decide +kernel, rfl, by decide +kernel, by decide +kernel⟩
theorem ok__law_area (T : TX K mg) : FnOk P w K mg base CX0 9 (f__law_area K) (fdO K (f__law_area K)) ["_law_blocks"] (sp_law_area K) := by
  refine (F__law_area T).ok sc__law_area (fun vs H Q E h => ?_) (fun cdv A outer s H vs Q E hr h => ?_)
  · obtain ⟨_, _, _, rfl, _⟩ := h; rfl
  · obtain ⟨G0, v, bs, rfl, e, hb, hok, hl, k⟩ := h
    refine ⟨_, PSs.nox (pss_one (ps_ret (pe_make (mk_Area T) (ok_Area___init__ T) (hr.mono (by decide)) (by rfl) (g_Area T) (b_Area___init___2 T).choose_spec.2 (b_Area___init___2 T).choose_spec.1 pass0 (pa_cons (pe_lc (own := [("_law_block_here", 1)]) (g := gName 1) (by rfl) sc__law_area.nd (pi_list (pv 0)) (blkOk_by (own := [("_law_block_here", 1)]) (N := ["_law_blocks", "_law_block_here"]) (sc := defScope s__law_area) (by decide +kernel)) (fun _ _ _ _ _ => (pg_name (i := 1) sc__law_area.nd rfl (by first | exact Or.inl rfl | exact Or.inr rfl))) (fun _ _ _ _ _ => pts_nil) (fun _ _ _ _ _ => (pe_make (mk_Block T) (ok_Block___init__ T) (hr.mono (by decide)) (by rfl) (g_Block T) (b_Block___init___5 T).choose_spec.2 (b_Block___init___5 T).choose_spec.1 pass0 (pa_cons (pe_ix (ixTK (K := K) (by rfl)) (pv 1) pe_int (fun _ _ => rfl)) (pa_cons (pe_ix (ixTK (K := K) (by rfl)) (pv 1) pe_int (fun _ _ => rfl)) (pa_cons (pe_ix (ixTK (K := K) (by rfl)) (pv 1) pe_int (fun _ _ => rfl)) (pa_cons (pe_ix (ixTK (K := K) (by rfl)) (pv 1) pe_int (fun _ _ => rfl)) pa_nil))))))) pa_nil)))), ?_⟩
    walk_at "go"
    refine lcG (R := IsTB) (S := IsBlk K) IsTB.mono IsBlk.mono (fun _ => true) (fun b => b) e hb (Nat.lt_of_le_of_lt hl (by decide)) (fun b wb G1 H1 N0 N1 hm s1 hw n0 n1 => ?_) fun G1 H1 D1 s1 hD1 => ?_
    · walk_at "go"
      refine ⟨rfl, ?_⟩
      walk_at "go"
      refine ixQ (j := 0) hw s1.i rfl rfl ?_
      walk_at "go"
      refine ixQ (j := 1) hw s1.i rfl rfl ?_
      walk_at "go"
      refine ixQ (j := 2) hw s1.i rfl rfl ?_
      walk_at "go"
      refine ixQ (j := 3) hw s1.i rfl rfl ?_
      walk_at "go"
      exact mkBlk (K := K) (b := b) rfl (hok b hm) s1.i fun pb G2 H2 s2 hb2 => n1 _ _ _ s2 hb2 rfl
    rw [List.filter_eq_self.mpr (fun _ _ => rfl), List.map_id'] at hD1
    walk_at "go"
    exact mkArea (K := K) (v := .ref D1) (xs := bs) rfl (.inr hD1) (okN_few hok hl) s1.i fun pa G2 H2 s2 ha => k _ _ _ (s1.trans s2) ha
def valL : List Str := ["a", "b 1", "", " ", "zz9", repS "a" 40, "0"]
theorem valL_ok : ∀ z ∈ valL, okV z = true ∧ z.cps.size ≤ 1000 := by
  have h : valL.all (fun z => okV z && decide (z.cps.size ≤ 1000)) = true := by decide +kernel
  intro z hz
  have := List.all_eq_true.mp h z hz
  rw [Bool.and_eq_true] at this
  exact ⟨this.1, of_decide_eq_true this.2⟩
def sp_law_some (K : PySem.W.Frag) : Sp := fun vs H Q _ => ∃ G p c f, vs = [.ref p, .int f] ∧ Ex G H ∧ MuW G H p c ∧ 0 ≤ c ∧ c < 999900 ∧ 0 < f ∧ f < 1073741824 ∧
  ∀ G1 H1 c' t x bs z, c ≤ c' → c' ≤ c + 20 → Stm [p] G H G1 H1 → MuW G1 H1 p c' → G1 t = some (.tup [x, .str z]) → IsL IsTB G1 x bs → (∀ b ∈ bs, okB b = true) → bs.length ≤ 3 → okV z = true ∧ z.cps.size ≤ 1000 → Q (.ref t) H1
theorem sc__law_some : FnScope ["_law_well_here", "_law_far", "_law_blocks", "_law_value_here", "_law_k"] ["_law_well_here", "_law_far"] (defScope s__law_some) := ⟨rfl, rfl, rfl, by decide +kernel, rfl, by decide +kernel, by decide +kernel⟩
theorem ok__law_some (T : TX K mg) : FnOk P w K mg base CX0 3 (f__law_some K) (fdO K (f__law_some K)) ["_law_well_here", "_law_far"] (sp_law_some K) := by
  refine (F__law_some T).ok sc__law_some (fun vs H Q E h => ?_) (fun cdv A outer s H vs Q E hr h => ?_)
  · obtain ⟨_, _, _, _, rfl, _⟩ := h; rfl
  · obtain ⟨G0, p, c, f, rfl, e, mw, c0, c9, f0, f1, k⟩ := h
    refine ⟨_, PSs.nox (pss_cons (ps_setLc (i := 2) (own := [("_law_k", 4)]) (g := gName 4) (by rfl) sc__law_some.nd rfl rfl (sw_true rfl rfl rfl (by decide +kernel)) (pi_range1 (by rfl) (z_range T) (pa_cons (pe_ix (ixLK (K := K) (by rfl)) (pe_lst (pa_cons pe_int (pa_cons pe_int (pa_cons pe_int (pa_cons pe_int (pa_cons pe_int pa_nil)))))) (pe_call (ok__law_draw T) (hr.mono (by decide)) (by rfl) (g__law_draw T) (F__law_draw T).kp (b__law_draw T) .nil pass0 (pa_cons (pv 0) (pa_cons pe_int pa_nil))) (fun _ _ => rfl)) pa_nil)) (blkOk_by (own := [("_law_k", 4)]) (N := ["_law_well_here", "_law_far", "_law_blocks", "_law_value_here", "_law_k"]) (sc := defScope s__law_some) (by decide +kernel)) (fun _ _ _ _ _ => (pg_name (i := 4) sc__law_some.nd rfl (by first | exact Or.inl rfl | exact Or.inr rfl))) (fun _ _ _ _ _ => pts_nil) (fun _ _ _ _ _ => (pe_call (ok__law_block T) (hr.mono (by decide)) (by rfl) (g__law_block T) (F__law_block T).kp (b__law_block T) .nil pass0 (pa_cons (pv 0) (pa_cons (pv 1) pa_nil)))))
      (pss_cons (ps_set (i := 3) sc__law_some.nd rfl (by first | exact Or.inl rfl | exact Or.inr rfl) (pe_ix (ixLK (K := K) (by rfl)) (pe_lst (pa_cons pe_str (pa_cons pe_str (pa_cons pe_str (pa_cons pe_str (pa_cons pe_str (pa_cons (pe_op op_mulS pe_str pe_int) (pa_cons pe_str pa_nil)))))))) (pe_call (ok__law_draw T) (hr.mono (by decide)) (by rfl) (g__law_draw T) (F__law_draw T).kp (b__law_draw T) .nil pass0 (pa_cons (pv 0) (pa_cons pe_int pa_nil))) (fun _ _ => rfl)))
      (pss_one (ps_ret (pe_tup (pa_cons (pv 2) (pa_cons (pv 3) pa_nil))))))), ?_⟩
    walk_at "go"
    refine lstI e (by show 5 ≤ 1000; decide) fun l1 G1 H1 s1 g1 => ?_
    walk_at "go"
    refine drawG s1.i (MuW.st mw s1) c0 (by omega) (by decide) (by decide) fun H2 d1 c1 d10 d11 c10 c11 s2 m2 => ?_
    walk_at "go"
    have hp2 : H2 p ≠ none := fun q => by
      obtain ⟨_, _, m, _⟩ := m2
      rw [m.1] at q; cases q
    refine pick (P := fun v => ∃ n : Nat, n ≤ 3 ∧ v = .int (n : Nat)) (s2.i _ _ (s2.g _ _ g1)) d10 (by show d1 < ((5 : Nat) : Int); omega) (fun v hv => ?_) fun v ⟨n, hn, ev⟩ => ?_
    · simp only [List.mem_cons, List.not_mem_nil, or_false] at hv
      rcases hv with rfl | rfl | rfl | rfl | rfl
      · exact ⟨1, by decide, rfl⟩
      · exact ⟨1, by decide, rfl⟩
      · exact ⟨2, by decide, rfl⟩
      · exact ⟨3, by decide, rfl⟩
      · exact ⟨0, by decide, rfl⟩
    subst ev
    walk_at "go"
    refine ⟨(n : Nat), rfl, by omega, by omega, ?_⟩
    refine lcRW (n := n) (A := [p]) IsTB.mono (fun b => okB b = true) (fun i G' H' => ∃ c', MuW G' H' p c' ∧ c ≤ c' ∧ c' ≤ c1 + 5 * (i : Nat)) s2.i (Nat.lt_of_le_of_lt hn (by decide)) (fun a ha => by rw [List.mem_singleton.mp ha]; exact hp2) ⟨c1, m2, c10, by omega⟩ (fun i G3 H3 G4 H4 D ⟨c', m, q1, q2⟩ hD s => ⟨c', ?_, q1, q2⟩) (fun i G3 H3 N1 hi s3 ⟨c', m3, q1, q2⟩ n1 => ?_) fun G3 H3 D3 bs s3 ⟨c', m3, q1, q2⟩ hbl hbo hbs => ?_
    · obtain ⟨a, b, m, b0, b1⟩ := m
      exact ⟨a, b, s.m _ _ (fun q => hp2 (by rw [List.mem_singleton.mp q]; exact hD)) m, b0, b1⟩
    · walk_at "go"
      refine ⟨rfl, ?_⟩
      walk_at "go"
      refine ⟨G3, p, c', f, rfl, s3.i, m3, by omega, by omega, f0, f1, fun G4 H4 c4 r4 b4 q3 q4 s4 m4 h4 ok4 => ?_⟩
      exact n1 G4 H4 r4 b4 s4 ⟨c4, m4, by omega, by omega⟩ h4 ok4
    · walk_at "go"
      refine mulS (n := 40) rfl (by decide) (by decide) (by decide +kernel) (by decide +kernel) ?_
      walk_at "go"
      refine lstI s3.i (by show 7 ≤ 1000; decide) fun l4 G4 H4 s4 g4 => ?_
      walk_at "go"
      refine drawG s4.i (MuW.st m3 s4) (by omega) (by omega) (by decide) (by decide) fun H5 d5 c5 d50 d51 c50 c51 s5 m5 => ?_
      walk_at "go"
      refine pick (P := fun v => ∃ z ∈ valL, v = .str z) (s5.i _ _ (s5.g _ _ g4)) d50 (by show d5 < ((7 : Nat) : Int); omega) (fun v hv => ?_) fun v ⟨z, hz, ev⟩ => ?_
      · simp only [List.mem_cons, List.not_mem_nil, or_false] at hv
        rcases hv with rfl | rfl | rfl | rfl | rfl | rfl | rfl <;> exact ⟨_, by simp [valL], rfl⟩
      subst ev
      walk_at "go"
      refine tupI s5.i (by show 2 ≤ 1000; decide) fun t6 G6 H6 s6 g6 => ?_
      walk_at "go"
      refine k G6 H6 c5 t6 _ bs z (by omega) (by omega) ((((St.up s1).trans s2).trans s3).trans (((St.up s4).trans s5).trans (St.up s6))) (MuW.st m5 s6) g6 (IsL.mono IsTB.mono _ _ _ _ ((s4.g.trans s5.g).trans s6.g) hbs) hbo (by omega) (valL_ok z hz)
end
end GT

/-! ## K61L -/
set_option Elab.async false
set_option linter.all false
set_option maxRecDepth 100000
set_option maxHeartbeats 4000000
namespace GT
open PySem PySem.Spec PyProof.Rows L2 G
local macro_rules | `(tactic| walk_at "ex") => `(tactic| first | exact Ex.refl _ | assumption | exact Stm.g (by assumption) | (refine Ex.trans ?_ (Stm.g (by assumption)); walk_at "ex"))
local macro_rules | `(tactic| walk_at "st") => `(tactic| first | exact Stm.refl (by assumption) | assumption | (refine Stm.trans ?_ (by assumption); walk_at "st"))
local macro_rules | `(tactic| walk_at "i") => `(tactic| first | assumption | exact Stm.i (by assumption))
local macro_rules | `(tactic| walk_at "fact") => `(tactic| first | rfl | exact (rfl : V.non = optV none) | exact (rfl : V.int _ = optV (some _)) | assumption)
local macro_rules | `(tactic| walk_at "g") => `(tactic| first
  | with_reducible refine x_seq ?_
  | with_reducible refine x_next ?_
  | with_reducible refine x_asg ?_
  | with_reducible refine x_ret ?_
  | with_reducible refine x_retN ?_
  | with_reducible refine x_drop ?_
  | with_reducible refine x_ifs ?_
  | ((with_reducible refine' x_var ?hv ?_); (case hv => exact rfl))
  | with_reducible refine x_c ?_
  | with_reducible refine x_op ?_
  | with_reducible refine x_un ?_
  | with_reducible refine x_test ?_
  | with_reducible refine x_B ?_
  | with_reducible refine x_bl ?_
  | with_reducible refine x_and ?_
  | with_reducible refine x_or ?_
  | with_reducible refine x_not ?_
  | with_reducible refine x_andV ?_
  | with_reducible refine x_orV ?_
  | with_reducible refine x_notV ?_
  | with_reducible refine x_ife ?_
  | with_reducible refine x_isN ?_
  | with_reducible refine x_notN ?_
  | with_reducible refine x_nil ?_
  | with_reducible refine x_cons ?_
  | with_reducible refine x_cb ?_
  | with_reducible refine x_call ?_
  | ((with_reducible refine' x_callL ?hv ?_); (case hv => exact rfl))
  | ((with_reducible refine' x_gnameN ?hv ?_); (case hv => (simp only [L2.start, List.map_cons, List.map_nil, List.length_cons, List.length_nil, List.replicate_succ, List.replicate_zero, List.cons_append, List.nil_append, List.set_cons_zero, List.set_cons_succ, Nat.reduceAdd, Nat.reduceSub, Nat.add_one_sub_one]; exact rfl)))
  | with_reducible refine x_gname ?_
  | with_reducible refine x_I0 ?_
  | ((with_reducible refine' x_eq ?hv ?_); (case hv => exact rfl))
  | ((with_reducible refine' x_ne ?hv ?_); (case hv => exact rfl))
  | with_reducible refine x_tupG ?_
  | with_reducible refine x_lstG ?_
  | with_reducible refine x_lc ?_
  | (with_reducible refine x_U ?_)
  | ((with_reducible refine' ite_T ?hv ?_); (case hv => exact rfl))
  | ((with_reducible refine' ite_F ?hv ?_); (case hv => exact rfl))
  | with_reducible refine x_for ?_
  | with_reducible refine x_iEnum ?_
  | with_reducible refine x_iRng1 ?_
  | with_reducible refine x_iList ?_
  | with_reducible refine x_iTup ?_
  | with_reducible refine x_gcons ?_
  | with_reducible refine x_gnil ?_
  | with_reducible refine x_bm ?_
  | with_reducible refine x_fldG ?_
  | with_reducible refine x_meth ?_
  | with_reducible refine x_sl ?_
  | with_reducible refine x_nopart ?_
  | with_reducible refine x_part ?_
  | with_reducible refine x_int ?_
  | with_reducible refine x_yes ?_
  | with_reducible refine x_isNG ?_
  | with_reducible refine x_notNG ?_
  | fail "no step")
local macro_rules | `(tactic| walk_at "g2") => `(tactic| first
  | with_reducible refine x_sfld ?_
  | with_reducible refine x_make ?_
  | with_reducible refine x_dnew ?_
  | with_reducible refine x_lcT ?_
  | with_reducible refine x_lcS ?_
  | with_reducible refine x_disp ?_
  | with_reducible refine x_pcons ?_
  | with_reducible refine x_pnil ?_
  | with_reducible refine x_dnewK ?_
  | with_reducible refine x_dput ?_
  | with_reducible refine x_gsub ?_
  | with_reducible refine x_dget2 ?_
  | with_reducible refine x_litems ?_
  | with_reducible refine x_bmX ?_
  | with_reducible refine x_ckw ?_
  | with_reducible refine L2Z.x_methS ?_
  | with_reducible refine L2Z.x_methN ?_
  | with_reducible refine x_callSD ?_
  | with_reducible refine x_lcZ ?_
  | with_reducible refine x_iZip ?_
  | with_reducible refine x_dget ?_
  | with_reducible refine x_revL ?_
  | with_reducible refine x_bm0 ?_
  | with_reducible refine x_lcRng ?_
  | walk_at "g")
local macro_rules | `(tactic| walk_at "go") => `(tactic| repeat' walk_at "g2")

section
variable {P : Program} {w : World} {K : PySem.W.Frag} {mg : Str → Option Value} {base : Heap}
theorem extSt {G H H' : Hp} (e : Ex G H) (x : Ext H H') : St G H G H' := ⟨Ex.refl G, fun a o h => x _ _ (e a o h), fun q u _ m => ⟨x _ _ m.1, m.2⟩⟩
def sp_law (K : PySem.W.Frag) : Sp := fun vs H Q _ => ∃ (a : Addr) (ns : List Int), vs = [.ref a] ∧ ns.length ≤ 63 ∧ SqL K H a (ns.map V.int) ∧ ∀ H', Q (.bl true) H'
theorem sc_law : FnScope ["_law_script", "_law_cell", "_law_well_here", "_law_far", "_law_sheet", "_law_mine", "_law_k", "_law_blocks", "_law_value_here", "_law_area_here"] ["_law_script"] (defScope s_law) := ⟨rfl, rfl, rfl, by decide +kernel, rfl, by decide +kernel, by decide +kernel⟩
theorem ok_law (T : TX K mg) : FnOk P w K mg base CX0 15 (f_law K) (fdO K (f_law K)) ["_law_script"] (sp_law K) := by
  refine (F_law T).ok sc_law (fun vs H Q E h => ?_) (fun cdv A outer s H vs Q E hr h => ?_)
  · obtain ⟨_, _, rfl, _⟩ := h; rfl
  · obtain ⟨a, ns, rfl, hn, hS, k⟩ := h
    refine ⟨_, PSs.nox (pss_cons (ps_for PassesOwn.never rfl (pi_list (pe_op op_cat (pe_lst (pa_cons (pe_call (ok__law_cell_at T) (hr.mono (by decide)) (by rfl) (g__law_cell_at T) (F__law_cell_at T).kp (b__law_cell_at T) .nil pass0 (pa_cons (pv 0) (pa_cons pe_int pa_nil))) pa_nil)) (pe_slice sl_list (pv 0) (po_some pe_int) (po_some pe_int)))) (pg_name (i := 1) sc_law.nd rfl (by first | exact Or.inl rfl | exact Or.inr rfl)) (pss_cons (ps_set (i := 2) sc_law.nd rfl (by first | exact Or.inl rfl | exact Or.inr rfl) (pe_call (ok__law_well T) (hr.mono (by decide)) (by rfl) (g__law_well T) (F__law_well T).kp (b__law_well T) .nil pass0 (pa_cons (pv 1) pa_nil)))
      (pss_cons (ps_set (i := 3) sc_law.nd rfl (by first | exact Or.inl rfl | exact Or.inr rfl) (pe_ix (ixLK (K := K) (by rfl)) (pe_lst (pa_cons pe_int (pa_cons pe_int (pa_cons (pe_op op_pow pe_int pe_int) pa_nil)))) (pe_call (ok__law_draw T) (hr.mono (by decide)) (by rfl) (g__law_draw T) (F__law_draw T).kp (b__law_draw T) .nil pass0 (pa_cons (pv 2) (pa_cons pe_int pa_nil))) (fun _ _ => rfl)))
      (pss_cons (ps_set (i := 4) sc_law.nd rfl (by first | exact Or.inl rfl | exact Or.inr rfl) (pe_make0 (mk_Sheet T) (ok_Sheet___init__ T) (hr.mono (by decide)) (by rfl) (g_Sheet T) (b_Sheet___init__ T) .nil pass0))
      (pss_cons (ps_set (i := 5) sc_law.nd rfl (by first | exact Or.inl rfl | exact Or.inr rfl) (pe_call0 (ok__law_new T) (hr.mono (by decide)) (by rfl) (g__law_new T) (F__law_new T).kp (b__law_new T) .nil pass0))
      (pss_cons (ps_if (PW.pt (pw_or (pt_not (pt_val (pe_call (ok__law_right T) (hr.mono (by decide)) (by rfl) (g__law_right T) (F__law_right T).kp (b__law_right T) .nil pass0 (pa_cons (pv 4) (pa_cons (pv 5) pa_nil))))) (pw_or (pt_cmpR (op_neD hr.units) (pe_meth0 (pv 4) (k_Sheet T) (m_Sheet_told T) (ok_Sheet_told T) (hr.mono (by decide)) (b_Sheet_told T) .nil pass0) (pe_lst (pa_cons pe_str pa_nil)) (nomark _)) (pw_or1 (pt_cmpR op_ne (pe_callB (lenO (ok_Sheet___len__ T) (hr.mono (by decide)) (m_Sheet___len__ T) (b_Sheet___len__ T) pass0) (by rfl) (z_len T) PySem.boot_len (pa_cons (pv 4) pa_nil)) pe_int (nomark _)))))) (pss_one (ps_ret pe_bl)) pss_nil)
      (pss_one (ps_for PassesOwn.never rfl (pi_range1 (by rfl) (z_range T) (pa_cons (pe_op op_add pe_int (pe_call (ok__law_draw T) (hr.mono (by decide)) (by rfl) (g__law_draw T) (F__law_draw T).kp (b__law_draw T) .nil pass0 (pa_cons (pv 2) (pa_cons pe_int pa_nil)))) pa_nil)) (pg_name (i := 6) sc_law.nd rfl (by first | exact Or.inl rfl | exact Or.inr rfl)) (pss_cons (ps_asg (pe_call (ok__law_some T) (hr.mono (by decide)) (by rfl) (g__law_some T) (F__law_some T).kp (b__law_some T) .nil pass0 (pa_cons (pv 2) (pa_cons (pv 3) pa_nil))) (pg_tup (by rfl) (pgs_cons (pg_name (i := 7) sc_law.nd rfl (by first | exact Or.inl rfl | exact Or.inr rfl)) (pgs_cons (pg_name (i := 8) sc_law.nd rfl (by first | exact Or.inl rfl | exact Or.inr rfl)) pgs_nil))))
      (pss_cons (ps_set (i := 9) sc_law.nd rfl (by first | exact Or.inl rfl | exact Or.inr rfl) (pe_call (ok__law_area T) (hr.mono (by decide)) (by rfl) (g__law_area T) (F__law_area T).kp (b__law_area T) .nil pass0 (pa_cons (pv 7) pa_nil)))
      (pss_cons (ps_if (PW.pt (pw_or (pt_cmpR op_notNG (pe_meth (pv 4) (k_Sheet T) (m_Sheet_fill T) (ok_Sheet_fill T) (hr.mono (by decide)) (b_Sheet_fill T) .nil passN (pa_cons (pv 9) (pa_cons (pv 8) pa_nil))) pe_non (nomark _)) (pw_or1 (pt_cmpR (op_neO (ok_Area___eq__ T) (hr.mono (by decide)) (m_Area___eq__ T) (b_Area___eq__ T) pass0 (ne_Area T)) (pv 9) (pe_call (ok__law_area T) (hr.mono (by decide)) (by rfl) (g__law_area T) (F__law_area T).kp (b__law_area T) .nil pass0 (pa_cons (pv 7) pa_nil)) (nomark _))))) (pss_one (ps_ret pe_bl)) pss_nil)
      (pss_cons (ps_set (i := 5) sc_law.nd rfl (by first | exact Or.inl rfl | exact Or.inr rfl) (pe_call (ok__law_filled T) (hr.mono (by decide)) (by rfl) (g__law_filled T) (F__law_filled T).kp (b__law_filled T) .nil pass0 (pa_cons (pv 5) (pa_cons (pv 7) (pa_cons (pv 8) pa_nil)))))
      (pss_one (ps_if (pt_not (pt_val (pe_call (ok__law_right T) (hr.mono (by decide)) (by rfl) (g__law_right T) (F__law_right T).kp (b__law_right T) .nil pass0 (pa_cons (pv 4) (pa_cons (pv 5) pa_nil))))) (pss_one (ps_ret pe_bl)) pss_nil))))))))))))))
      (pss_one (ps_ret pe_bl))), ?_⟩
    walk_at "go"
    refine ⟨a, ns, rfl, hS, fun n0 => ?_⟩
    walk_at "go"
    refine lstI (Ex.refl H) (by show 1 ≤ 1000; decide) fun l1 G1 H1 s1 g1 => ?_
    walk_at "go"
    obtain ⟨ms, hm, em⟩ := cutV_map ns (some 1) (some 2)
    refine ⟨a, _, rfl, sqMono (s1.g.trans s1.i) hS, fun l2 hl2 => ?_⟩
    rw [em]
    refine al (Q := fun H' => rCat (.ref l1) (.ref l2) H' _) hl2 s1.i fun G2 H2 s2 g2 => ?_
    refine catL (R := IsI) IsI.mono (xs := [n0]) (ys := ms) ⟨l1, _, rfl, s2.g _ _ g1, .cons rfl .nil⟩ ⟨l2, _, rfl, g2, ints_paired _⟩ s2.i (Nat.le_trans (show 1 + ms.length ≤ 1000 by omega) (by decide)) fun l3 G3 H3 s3 h3 => ?_
    have a3 := (s1.trans s2).trans s3
    refine forG (K := K) (R := IsI) IsI.mono h3 s3.i (fun i σ' G' H' => ∃ o1 o2 o3 o4 o5 o6 o7 o8 o9, σ' = [some (.ref a), o1, o2, o3, o4, o5, o6, o7, o8, o9] ∧ St G3 H3 G' H')
      ⟨none, none, none, none, none, none, none, none, none, rfl, Stm.refl s3.i⟩ (fun i σ' G' H' _ ⟨_, _, _, _, _, _, _, _, _, _, s⟩ => ⟨s.g, s.i⟩) ?_ ?_
    · rintro j x wv σ1 G4 H4 hj ⟨o1, o2, o3, o4, o5, o6, o7, o8, o9, rfl, sL⟩ hw
      cases hw
      walk_at "go"
      refine ⟨G4, x, rfl, sL.i, fun H5 p hp s5 m5 => ?_⟩
      walk_at "go"
      refine x_I ⟨by decide, by decide, by decide⟩ ?_
      walk_at "go"
      refine lstI s5.i (by show 3 ≤ 1000; decide) fun l6 G6 H6 s6 g6 => ?_
      walk_at "go"
      refine drawG s6.i (MuW.st m5 s6) (by decide) (by decide) (by decide) (by decide) fun H7 d7 c7 d70 d71 c70 c71 s7 m7 => ?_
      refine pick (P := fun v => ∃ f : Int, 0 < f ∧ f < 1073741824 ∧ v = .int f) (s7.i _ _ (s7.g _ _ g6)) d70 (by show d7 < ((3 : Nat) : Int); omega) (fun v hv => ?_) fun v ⟨f, f0, f1, ev⟩ => ?_
      · simp only [List.mem_cons, List.not_mem_nil, or_false] at hv
        rcases hv with rfl | rfl | rfl
        · exact ⟨4, by decide, by decide, rfl⟩
        · exact ⟨20, by decide, by decide, rfl⟩
        · exact ⟨1000000000, by decide, by decide, by congr 1⟩
      subst ev
      walk_at "go"
      have b7 : Stm [p] G4 H4 G6 H7 := (St.up (s5.trans s6)).trans s7
      refine makeG s7.i fun ps dx H8 hps hdx hn8 s8 m8 => ⟨G6, ps, dx, rfl, s8.i, m8, fun G9 H9 d9 kvs9 s9 ms9 hD9 hd9 => ⟨rfl, ?_⟩⟩
      have hpps : p ≠ ps := fun q => by
        obtain ⟨_, _, m, _⟩ := m7
        have h1 := m.1
        rw [q, hps] at h1; cases h1
      have hps4 : H4 ps = none := b7.none hps fun z => by
        rw [List.mem_singleton] at z; exact hpps z.symm
      have b9 : Stm [p, ps] G4 H4 G9 H9 := ((b7.sub (by simp)).trans (s8.sub (by simp))).trans (s9.sub (by simp))
      have mw9 : MuW G9 H9 p c7 := by
        obtain ⟨a, b, m, b0, b1⟩ := MuW.st m7 s8
        exact ⟨a, b, s9.m _ _ (by simpa using hpps) m, b0, b1⟩
      clear s8 s9 m8 m7 m5 s7 b7
      walk_at "go"
      refine ⟨G9, rfl, b9.i, fun G10 H10 r10 s10 hM10 => ?_⟩
      walk_at "go"
      have r0 : RightOk [(Str.ofString "", wholeB)] mine0 := by
        have := right0
        rw [norm_all] at this
        exact this
      have ms10 := MuS.st ms9 s10
      have hD10 := hD9.mono s10.g
      refine ⟨G10, ps, d9, kvs9, _, r10, mine0, rfl, s10.i, ms10, hD10, hM10, r0, fun G11 H11 s11 => ?_⟩
      walk_at "go"
      have ms11 := MuS.st ms10 s11
      have hD11 := hD10.mono s11.g
      refine mS ms11 (by decide +kernel) ?_
      walk_at "go"
      refine ⟨G11, ps, d9, kvs9, _, rfl, s11.i, ms11, hD11, by decide, fun H12 r12 ys12 hr12 s12 hp12 ho12 m12 => ?_⟩
      obtain ⟨s12', g12⟩ := freeze m12 s12.i
      have s112 : St G11 H11 (upd G11 r12 (.lst (ys12.map V.str))) H12 := Stm.fresh (Stm.refl s11.i) ((St.up s12).trans s12') fun q hq => by
        rw [List.mem_singleton.mp hq]; exact hr12
      have hy12 : IsL IsS (upd G11 r12 (.lst (ys12.map V.str))) (.ref r12) ys12 := ⟨r12, _, rfl, g12, strs_paired ys12⟩
      generalize upd G11 r12 (.lst (ys12.map V.str)) = G12 at s112 hy12
      clear s12' g12 m12 s12
      have ey : ys12 = [Str.ofString ""] := List.perm_singleton.mp hp12
      subst ey
      walk_at "go"
      refine lstI s112.i (by show 1 ≤ 1000; decide) fun l13 G13 H13 s13 g13 => ?_
      refine neStrs (fun z hz => by rw [List.mem_singleton.mp hz]; decide +kernel) (IsL.mono IsS.mono _ _ _ _ s13.g hy12) ⟨l13, _, rfl, g13, .cons rfl .nil⟩ s13.i ⟨_, rfl, ?_⟩
      walk_at "go"
      have s1013 : St G10 H10 G13 H13 := (s11.trans s112).trans s13
      have ms13 := MuS.st ms10 s1013
      have hD13 := hD10.mono s1013.g
      obtain ⟨zs, hB, ez⟩ := HD.hb hD13
      obtain ⟨dx13, mo13⟩ := ms13.o
      have erl : (rawZ zs).length = 0 := by
        have := rawZ_P hB
        rw [ez] at this
        have e2 : ((rawZ zs).map toP).length = 0 := by rw [this]; rfl
        rw [List.length_map] at e2
        exact e2
      refine ⟨ps, dx13, _, rfl, mo13.1, G13, ps, d9, kvs9, zs, rfl, s13.i, ms13, hB, ?_, by rw [ez]; decide +kernel, fun G14 H14 s14 => ⟨_, rfl, by rw [erl]; decide, ?_⟩⟩
      · have : (zh zs).length = zs.length := by unfold zh; rw [List.length_map]
        rw [ez] at this
        have this : 1 = zs.length := this
        omega
      rw [erl]
      walk_at "go"
      have s1014 := s1013.trans s14
      have b14 := (b9.trans (St.up s10)).trans (St.up s1014)
      have ms14 := MuS.st ms10 s1014
      have mw14 := MuW.st (MuW.st mw9 s10) s1014
      have hD14 := hD10.mono s1014.g
      have hM14 := IsMine.mono _ _ _ _ s1014.g hM10
      clear ms13 hD13 s1013 mo13 hB ms11 hD11 s11 s112 s13 s14 hy12
      refine drawG b14.i mw14 (by omega) (by omega) (by decide) (by decide) fun H15 n15 c15 n150 n151 c150 c151 s15 m15 => ?_
      obtain ⟨nn, rfl⟩ := Int.eq_ofNat_of_zero_le n150
      have b15 : Stm [p, ps] G4 H4 G14 H15 := b14.trans (s15.sub (by simp))
      have hdp : d9 ≠ p := fun q => by
        have h1 := (ms14.d).1
        obtain ⟨_, _, m', _⟩ := mw14
        rw [q, m'.1] at h1; cases h1
      have ms15 := ms14.to s15 (by simpa using hpps.symm) (by simpa using hdp)
      walk_at "go"
      refine ⟨1 + (nn : Nat), rfl, by omega, by omega, ?_⟩
      have et : (Int.toNat (1 + (nn : Int))) = 1 + nn := by omega
      rw [et]
      refine rangeG (G := G14) (fun i σ' G' H' => ∃ hs m d kvs r c o6 o7 o8 o9, σ' = [some (.ref a), some (.int x), some (.ref p), some (.int f), some (.ref ps), some r, o6, o7, o8, o9] ∧ Stm [p, ps] G4 H4 G' H' ∧ MuW G' H' p c ∧ 0 ≤ c ∧ c ≤ 10 + 20 * (i : Nat) ∧ MuS K G' H' ps d kvs ∧ HD K G' kvs hs ∧ IsMine G' r m ∧ RightOk hs m ∧ m.R.length ≤ 1 + 6 * i ∧ m.C.length ≤ 1 + 6 * i ∧ hs.length ≤ 1 + i ∧ m.ds.length ≤ i)
        ⟨_, mine0, d9, kvs9, r10, c15, o6, o7, o8, o9, rfl, b15, m15, by omega, by omega, ms15, hD14.mono s15.g, IsMine.mono _ _ _ _ s15.g hM14, r0, by decide, by decide, by decide, by decide⟩ ?_ ?_
      · rintro i σ1 G16 H16 hi ⟨hs, m, d, kvs, r, c, o6, o7, o8, o9, rfl, b16, m16, c160, c161, ms16, hD16, hM16, ok16, q1, q2, q3, q4⟩
        have hi4 : i ≤ 3 := by omega
        walk_at "go"
        refine ⟨G16, p, c, f, rfl, b16.i, m16, c160, by omega, f0, f1, fun G17 H17 c17 t17 x17 bs z c170 c171 s17 m17 ht17 hb17 hbo hbl hz => ?_⟩
        have hdp16 : d ≠ p := fun q => by
          have h1 := (ms16.d).1
          obtain ⟨_, _, m', _⟩ := m16
          rw [q, m'.1] at h1; cases h1
        have ms17 := ms16.to s17 (by simpa using hpps.symm) (by simpa using hdp16)
        have b17 : Stm [p, ps] G4 H4 G17 H17 := b16.trans (s17.sub (by simp))
        refine x_gtup (s17.i _ _ ht17) rfl ?_
        walk_at "go"
        refine ⟨G17, x17, bs, rfl, s17.i, hb17, hbo, by omega, fun G18 H18 r18 s18 ha18 => ?_⟩
        have ms18 := MuS.st ms17 s18
        walk_at "go"
        refine mS ms18 (by decide +kernel) ?_
        walk_at "go"
        obtain ⟨f1', f2', f3', f4'⟩ := ok16.fill hbo hbl hz q1 q2 (by omega) (by omega)
        obtain ⟨a18, dxa, qa, era, ga, hqa⟩ := ha18
        subst era
        have ha18 : IsAr K G18 (.ref a18) (norm bs) := ⟨a18, dxa, qa, rfl, ga, hqa⟩
        refine ⟨G18, ps, d, kvs, hs, .ref a18, .str z, some (norm bs), true, rfl, s18.i, ms18, hD16.mono (s17.g.trans s18.g), ok16.h.kn, .inr ⟨_, rfl, ha18⟩, .inr ⟨_, rfl, hz.2, hz.1.symm⟩, (fun z => nomatch z), (fun _ _ z => nomatch z), fun a' z' ha' hz' _ => ?_⟩
        cases ha'
        cases hz'
        refine ⟨f1', fun G19 H19 d19 kvs19 s19 ms19 hD19 hd19 => ?_⟩
        walk_at "go"
        have e1719 := s18.g.trans s19.g
        have b19 : Stm [p, ps] G4 H4 G19 H19 := (b17.trans (St.up s18)).trans (s19.sub (by simp))
        have mw19 : MuW G19 H19 p c17 := by
          obtain ⟨a1, b1, m', x0, x1⟩ := MuW.st m17 s18
          exact ⟨a1, b1, s19.m _ _ (by simpa using hpps) m', x0, x1⟩
        refine ⟨G19, x17, bs, rfl, s19.i, IsL.mono IsTB.mono _ _ _ _ e1719 hb17, hbo, by omega, fun G20 H20 r20 s20 ha20 => ?_⟩
        obtain ⟨a20, dxb, qb, erb, gb, hqb⟩ := ha20
        subst erb
        have ha20 : IsAr K G20 (.ref a20) (norm bs) := ⟨a20, dxb, qb, rfl, gb, hqb⟩
        have ga20 := (s19.g.trans s20.g) _ _ ga
        have ha18' : IsAr K G20 (.ref a18) (norm bs) := IsAr.mono _ _ _ _ (s19.g.trans s20.g) ha18
        walk_at "go"
        refine ⟨a18, a20, dxa, dxb, _, _, rfl, rfl, s20.i _ _ ga20, s20.i _ _ gb, a18, a20, rfl, area_RA ha18' ha20 s20.i, fun H21 ext => ⟨true, rfl, ?_⟩⟩
        have s21 := extSt s20.i ext
        have s1921 := s20.trans s21
        have ms21 := MuS.st ms19 s1921
        walk_at "go"
        refine ⟨G20, r, x17, m, bs, z, rfl, s21.i, IsMine.mono _ _ _ _ (s17.g.trans (e1719.trans s20.g)) hM16, IsL.mono IsTB.mono _ _ _ _ (e1719.trans s20.g) hb17, by omega, by omega, ok16.zR, ok16.zC, fun G22 H22 r22 s22 hM22 => ?_⟩
        walk_at "go"
        have s1922 := s1921.trans s22
        have ms22 := MuS.st ms19 s1922
        have hD22 := hD19.mono s1922.g
        refine ⟨G22, ps, d19, kvs19, _, r22, _, rfl, s22.i, ms22, hD22, hM22, f2', fun G23 H23 s23 => ?_⟩
        walk_at "go"
        have s1923 := s1922.trans s23
        have hfl := fill_len hs (norm bs) z
        refine ⟨G23, fillH hs (norm bs) z, lfill m bs z, d19, kvs19, r22, c17, _, _, _, _, rfl, b19.trans (St.up s1923), MuW.st mw19 s1923, by omega, by omega, MuS.st ms19 s1923, hD19.mono s1923.g, IsMine.mono _ _ _ _ s23.g hM22, f2', by omega, by omega, by omega, ?_⟩
        show (m.ds ++ [(bs, z)]).length ≤ i + 1
        rw [List.length_append]
        exact Nat.succ_le_succ q4
      · rintro σ' G16 H16 ⟨hs, m, d, kvs, r, c, o6, o7, o8, o9, rfl, b16, _⟩
        refine ⟨G16, _, _, _, _, _, _, _, _, _, rfl, sL.trans (Stm.fresh (Stm.refl sL.i) b16 fun q hq => ?_)⟩
        simp only [List.mem_cons, List.not_mem_nil, or_false] at hq
        rcases hq with rfl | rfl
        · exact hp
        · exact hps4
    · rintro σ' G4 H4 ⟨o1, o2, o3, o4, o5, o6, o7, o8, o9, rfl, sL⟩
      walk_at "go"
      exact k _
end
end GT

/-! ## KEnd -/
set_option Elab.async false
set_option linter.all false
set_option maxRecDepth 100000
set_option maxHeartbeats 0
open PySem PySem.W PySem.Calls PyProof.Rows
theorem PySem.Challenge.cw_cellblocks_k61_sheets_filled_holds : PySem.Challenge.rw_cellblocks_k61_sheets_filled.Holds := by
  w_on; o_law
  refine HandSHeadRun.head_any (r := OpenLaw.row PySem.Challenge.rw_cellblocks_k61_sheets_filled) (q := view (OpenLaw.row PySem.Challenge.rw_cellblocks_k61_sheets_filled).prog [76]) (H := GT.hook) (ob := GT.ob) (M := 6000) (loose := GT.names) (d := HandSHeadRun.topDef (OpenLaw.row PySem.Challenge.rw_cellblocks_k61_sheets_filled).prog 76) (kwd := []) GT.ob_eq
    (by kernel_rfl) (fun s => by kernel_rfl) GT.run (by kernel_rfl) (by kernel_rfl) (by kernel_rfl) (by rfl) (by first | assumption | decide +kernel) (by decide +kernel) ⟨rfl, rfl, rfl, rfl, rfl, by decide +kernel⟩ ?hw ?hc
  case hw => w_witness2
  case hc =>
    refine L2.walk_ofE (l := PySem.Challenge.rw_cellblocks_k61_sheets_filled) (n := 63) (k := 15) (x := "_law_script") (CX := L2.CX0) rfl (by decide) (by kernel_rfl) ⟨rfl, by decide, by decide⟩ ?F (fun _ _ _ _ z => z)
    intro w mg fa h Y G hmg0
    obtain ⟨K, KX, c⟩ := Y
    have hmg : mg ("law" : PySem.Str) = some (.ref fa) := by
      have e : (HandSHeadRun.topDef (OpenLaw.row PySem.Challenge.rw_cellblocks_k61_sheets_filled).prog 76).name = ("law" : PySem.Str) := by kernel_rfl
      rw [← e]
      exact hmg0
    have T : GT.TX K mg := ⟨⟨h, KX, G⟩, c⟩
    have e := hmg.symm.trans (GT.g_law T)
    cases e
    refine ⟨K, GT.fdO K (GT.f_law K), GT.sp_law K, KX, fun s v => (GT.F_law T).bindsA (ps := ["_law_script"]) (fun _ _ _ _ _ _ us hl => match us, hl with | [_], _ => rfl) s [v] rfl, fun H a ns hl _ hS => ⟨a, ns, rfl, hl, hS, fun _ => rfl⟩, fun base _ _ => GT.ok_law T⟩

