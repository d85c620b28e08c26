import PyProof.Rows.All
import Wide.All
import OpenK.AllK
import Wide.FinOn
import HandS.ForSpec
import HandS.ForMost
import HandS.IsInst
import HandS.CallLocal
import HandS.Defaults
import HandS.Flow
import HandS.Evl
import KE.KDictKeyed
import HandS.DictTup
import HandS.ListItems
import HandS.SortKw
import HandS.Keys
import HandS.OwnEq
import HandS.Codes
import KE.KSortKey
import KE.KSortTup
import HandS.SetFor
import HandS.Strs
import HandS.SortInts
import HandS.HeadHook1
import HandS.Walk
import HandS.Deep
import HandS.WordsExc
import HandS.ExcIs
import HandS.Small
import HandS.ExcCtx
import HandS.DeepEq
import HandS.Steps
import HandS.Hot
import HandS.HotCalls
import HandS.Comp
import HandS.Iter
import HandS.CallSlots
import PyProof.StrOps2
import KE.KStateDown
import Lean
import HandS.Head0
import HandS.Head1
import HandS.Head2
import HandS.HeadEnd
import HandS.HeadHook2
import HandS.Words
import PySem.Challenge.RW_cellblocks_k62_what_sheets_refuse
/-! ## GBase -/
set_option Elab.async false
set_option linter.all false
set_option maxRecDepth 100000
namespace G
open PySem PySem.Spec PyProof.Rows L2
/-! ### heaps -/
def Ex (H H' : Hp) : Prop := ∀ a o, H a = some o → H' a = some o
theorem Ex.refl (H : Hp) : Ex H H := fun _ _ h => h
theorem Ex.trans {H H1 H2 : Hp} (a : Ex H H1) (b : Ex H1 H2) : Ex H H2 := fun x o h => b x o (a x o h)
theorem Ex.new {H : Hp} {p : Addr} {o : HO} (h : H p = none) : Ex H (upd H p o) := fun a u e => by
  rw [upd_ne (ne_of_none e h)]; exact e
theorem Ex.none {H H' : Hp} {p : Addr} (e : Ex H H') (h : H' p = none) : H p = none := by
  cases q : H p with
  | none => rfl
  | some o => rw [e p o q] at h; cases h
/-- an object that may change: it stands in H, no fact of G speaks of it -/
def Mu (G H : Hp) (p : Addr) (o : HO) : Prop := H p = some o ∧ G p = none
/-- from (G, H) on to (G', H'): the facts stay, what may change stays but for the addresses of A -/
structure Stm (A : List Addr) (G H G' H' : Hp) : Prop where
  g : Ex G G'
  i : Ex G' H'
  m : ∀ q u, q ∉ A → Mu G H q u → Mu G' H' q u
abbrev St (G H G' H' : Hp) : Prop := Stm [] G H G' H'
theorem Stm.refl {A : List Addr} {G H : Hp} (e : Ex G H) : Stm A G H G H := ⟨Ex.refl G, e, fun _ _ _ h => h⟩
theorem Stm.trans {A : List Addr} {G H G1 H1 G2 H2 : Hp} (a : Stm A G H G1 H1) (b : Stm A G1 H1 G2 H2) : Stm A G H G2 H2 :=
  ⟨a.g.trans b.g, b.i, fun q u n h => b.m q u n (a.m q u n h)⟩
theorem Stm.sub {A B : List Addr} {G H G1 H1 : Hp} (a : Stm A G H G1 H1) (h : ∀ x, x ∈ A → x ∈ B) : Stm B G H G1 H1 := ⟨a.g, a.i, fun q u n m => a.m q u (fun z => n (h q z)) m⟩
theorem St.up {A : List Addr} {G H G1 H1 : Hp} (a : St G H G1 H1) : Stm A G H G1 H1 := a.sub fun _ h => nomatch h
theorem St.mu {G H G' H' : Hp} {q : Addr} {u : HO} (s : St G H G' H') (h : Mu G H q u) : Mu G' H' q u := s.m q u (fun z => nomatch z) h
/-- a new thing that won't change -/
theorem al {G H : Hp} {p : Addr} {o : HO} {Q : Hp → Prop} (hp : H p = none) (e : Ex G H) (k : ∀ G1 H1, St G H G1 H1 → G1 p = some o → Q H1) : Q (upd H p o) :=
  k (upd G p o) (upd H p o) ⟨Ex.new (e.none hp), fun a u h => by
    unfold upd at h ⊢
    split
    · rename_i c; rw [if_pos c] at h; exact h
    · rename_i c; rw [if_neg c] at h; exact e a u h, fun q u _ h => by
    have n : q ≠ p := ne_of_none h.1 hp
    exact ⟨by rw [upd_ne n]; exact h.1, by rw [upd_ne n]; exact h.2⟩⟩ upd_same
/-- a new thing that may change -/
theorem alm {G H : Hp} {p : Addr} {o : HO} {Q : Hp → Prop} (hp : H p = none) (e : Ex G H) (k : ∀ H1, St G H G H1 → Mu G H1 p o → (∀ q u, Mu G H q u → q ≠ p) → Q H1) : Q (upd H p o) :=
  k (upd H p o) ⟨Ex.refl G, e.trans (Ex.new hp), fun q u _ h => ⟨by rw [upd_ne (ne_of_none h.1 hp)]; exact h.1, h.2⟩⟩ ⟨upd_same, e.none hp⟩ fun q u h => ne_of_none h.1 hp
/-- a change -/
theorem chg {G H : Hp} {p : Addr} {o o' : HO} {Q : Hp → Prop} (hm : Mu G H p o) (e : Ex G H) (k : ∀ H1, Stm [p] G H G H1 → Mu G H1 p o' → Q H1) : Q (upd H p o') :=
  k (upd H p o') ⟨Ex.refl G, fun a u h => by rw [upd_ne (ne_of_none h hm.2)]; exact e a u h, fun q u n h => ⟨by rw [upd_ne (fun z => n (by rw [z]; exact List.mem_singleton.mpr rfl))]; exact h.1, h.2⟩⟩ ⟨upd_same, hm.2⟩
theorem alF {G H : Hp} {p : Addr} {o : HO} (hp : H p = none) (e : Ex G H) : St G H (upd G p o) (upd H p o) ∧ upd G p o p = some o := ⟨⟨Ex.new (e.none hp), fun a u h => by
    unfold upd at h ⊢
    split
    · rename_i c; rw [if_pos c] at h; exact h
    · rename_i c; rw [if_neg c] at h; exact e a u h, fun q u _ h => by
    have n : q ≠ p := ne_of_none h.1 hp
    exact ⟨by rw [upd_ne n]; exact h.1, by rw [upd_ne n]; exact h.2⟩⟩, upd_same⟩
theorem almF {G H : Hp} {p : Addr} {o : HO} (hp : H p = none) (e : Ex G H) : St G H G (upd H p o) ∧ Mu G (upd H p o) p o :=
  ⟨⟨Ex.refl G, e.trans (Ex.new hp), fun q u _ h => ⟨by rw [upd_ne (ne_of_none h.1 hp)]; exact h.1, h.2⟩⟩, ⟨upd_same, e.none hp⟩⟩
theorem chgF {G H : Hp} {p : Addr} {o o' : HO} (hm : Mu G H p o) (e : Ex G H) : Stm [p] G H G (upd H p o') ∧ Mu G (upd H p o') p o' :=
  ⟨⟨Ex.refl G, fun a u h => by rw [upd_ne (fun z => by rw [z] at h; rw [hm.2] at h; cases h)]; exact e a u h, fun q u n h => ⟨by rw [upd_ne (fun z => n (by rw [z]; exact List.mem_singleton.mpr rfl))]; exact h.1, h.2⟩⟩, ⟨upd_same, hm.2⟩⟩
/-- a step that changes only what was not there ahead -/
theorem Stm.fresh {A : List Addr} {G H G0 H0 G1 H1 : Hp} (s : St G H G0 H0) (t : Stm A G0 H0 G1 H1) (n : ∀ a ∈ A, H a = none) : St G H G1 H1 :=
  ⟨s.g.trans t.g, t.i, fun q u _ h => t.m q u (fun z => by have := n q z; rw [h.1] at this; cases this) (s.m q u (fun z => nomatch z) h)⟩
/-- from now on it won't change -/
theorem freeze {G H : Hp} {p : Addr} {o : HO} (hm : Mu G H p o) (e : Ex G H) : Stm [p] G H (upd G p o) H ∧ upd G p o p = some o :=
  ⟨⟨Ex.new hm.2, fun a u h => by
    unfold upd at h
    split at h
    · rename_i c; cases h; rw [c]; exact hm.1
    · exact e a u h, fun q u n h => ⟨h.1, by rw [upd_ne (fun z => n (by rw [z]; exact List.mem_singleton.mpr rfl))]; exact h.2⟩⟩, upd_same⟩
/-! ### what values are -/
abbrev Rp (α : Type) := Hp → V → α → Prop
def Mono {α : Type} (R : Rp α) : Prop := ∀ G G' v a, Ex G G' → R G v a → R G' v a
def IsI : Rp Int := fun _ v i => v = .int i
def IsB : Rp Bool := fun _ v b => v = .bl b
def IsS : Rp Str := fun _ v s => v = .str s
@[reducible] def optV : Option Int → V
  | none => .non
  | some i => .int i
def IsO : Rp (Option Int) := fun _ v o => v = optV o
def IsL {α : Type} (R : Rp α) : Rp (List α) := fun G v xs => ∃ p vs, v = .ref p ∧ G p = some (.lst vs) ∧ Paired (R G) vs xs
def IsT2 {α β : Type} (R : Rp α) (S : Rp β) : Rp (α × β) := fun G v z => ∃ p x y, v = .ref p ∧ G p = some (.tup [x, y]) ∧ R G x z.1 ∧ S G y z.2
def IsT3 {α β γ : Type} (R : Rp α) (S : Rp β) (T : Rp γ) : Rp (α × β × γ) := fun G v z => ∃ p x y u, v = .ref p ∧ G p = some (.tup [x, y, u]) ∧ R G x z.1 ∧ S G y z.2.1 ∧ T G u z.2.2
theorem IsI.mono : Mono IsI := fun _ _ _ _ _ h => h
theorem IsB.mono : Mono IsB := fun _ _ _ _ _ h => h
theorem IsS.mono : Mono IsS := fun _ _ _ _ _ h => h
theorem IsO.mono : Mono IsO := fun _ _ _ _ _ h => h
theorem paired_imp {α β : Type} {F F' : α → β → Prop} (h : ∀ a b, F a b → F' a b) : ∀ {xs : List α} {ys : List β}, Paired F xs ys → Paired F' xs ys
  | _, _, .nil => .nil
  | _, _, .cons r t => .cons (h _ _ r) (paired_imp h t)
theorem IsL.mono {α : Type} {R : Rp α} (m : Mono R) : Mono (IsL R) := fun G G' v xs e ⟨p, vs, hv, hp, r⟩ => ⟨p, vs, hv, e _ _ hp, paired_imp (fun a b q => m G G' a b e q) r⟩
theorem IsT2.mono {α β : Type} {R : Rp α} {S : Rp β} (m : Mono R) (n : Mono S) : Mono (IsT2 R S) := fun G G' v z e ⟨p, x, y, hv, hp, r, s⟩ => ⟨p, x, y, hv, e _ _ hp, m _ _ _ _ e r, n _ _ _ _ e s⟩
theorem IsT3.mono {α β γ : Type} {R : Rp α} {S : Rp β} {T : Rp γ} (m : Mono R) (n : Mono S) (l : Mono T) : Mono (IsT3 R S T) := fun G G' v z e ⟨p, x, y, u, hv, hp, r, s, t⟩ => ⟨p, x, y, u, hv, e _ _ hp, m _ _ _ _ e r, n _ _ _ _ e s, l _ _ _ _ e t⟩
theorem optV_int {o : Option Int} {i : Int} (h : optV o = .int i) : o = some i := by
  cases o with
  | none => cases h
  | some j => cases h; rfl
theorem paired_get {α β : Type} {F : α → β → Prop} : ∀ {xs : List α} {ys : List β} {i : Nat} {x : α}, Paired F xs ys → xs[i]? = some x → ∃ y, ys[i]? = some y ∧ F x y
  | _, _, _, _, .nil, e => by simp at e
  | _, _, 0, _, .cons r _, e => by simp at e; subst e; exact ⟨_, rfl, r⟩
  | _, _, i + 1, _, .cons _ t, e => paired_get (i := i) t (by simpa using e)
theorem paired_get' {α β : Type} {F : α → β → Prop} : ∀ {xs : List α} {ys : List β} {i : Nat} {y : β}, Paired F xs ys → ys[i]? = some y → ∃ x, xs[i]? = some x ∧ F x y
  | _, _, _, _, .nil, e => by simp at e
  | _, _, 0, _, .cons r _, e => by simp at e; subst e; exact ⟨_, rfl, r⟩
  | _, _, i + 1, _, .cons _ t, e => paired_get' (i := i) t (by simpa using e)
theorem paired_snoc {α β : Type} {F : α → β → Prop} {x : α} {y : β} (r : F x y) : ∀ {xs : List α} {ys : List β}, Paired F xs ys → Paired F (xs ++ [x]) (ys ++ [y])
  | _, _, .nil => .cons r .nil
  | _, _, .cons q t => .cons q (paired_snoc r t)
theorem paired_app {α β : Type} {F : α → β → Prop} : ∀ {xs xs' : List α} {ys ys' : List β}, Paired F xs ys → Paired F xs' ys' → Paired F (xs ++ xs') (ys ++ ys')
  | _, _, _, _, .nil, q => q
  | _, _, _, _, .cons r t, q => .cons r (paired_app t q)
theorem paired_len {α β : Type} {F : α → β → Prop} {xs : List α} {ys : List β} (h : Paired F xs ys) : xs.length = ys.length := Paired.length h
theorem paired_ints : ∀ {G : Hp} {vs : List V} {ns : List Int}, Paired (IsI G) vs ns → vs = ns.map V.int
  | _, _, _, .nil => rfl
  | _, _, _, .cons r t => by
    rw [List.map_cons, ← paired_ints t]
    cases r; rfl
theorem paired_bools : ∀ {G : Hp} {vs : List V} {ns : List Bool}, Paired (IsB G) vs ns → vs = ns.map V.bl
  | _, _, _, .nil => rfl
  | _, _, _, .cons r t => by
    rw [List.map_cons, ← paired_bools t]
    cases r; rfl
theorem ints_paired {G : Hp} : ∀ (ns : List Int), Paired (IsI G) (ns.map V.int) ns
  | [] => .nil
  | n :: r => .cons rfl (ints_paired r)
end G

/-! ## GExec -/
set_option Elab.async false
set_option linter.all false
set_option maxRecDepth 100000
namespace G
open PySem PySem.Spec PyProof.Rows L2
/-! ### steps of a reading, by its head -/
section
variable {K : PySem.W.Frag} {σ : L2.St} {H G : Hp} {Q : VK} {D : Ends}
theorem x_seq {t u : TS} (h : t { D with nx := u D } σ H) : tSeq t u D σ H := h
theorem x_next (h : D.nx σ H) : tNext D σ H := h
theorem x_asg {te : TE} {g : TG} (h : te σ H fun x H1 => g x σ H1 D.nx) : tAsg te g D σ H := h
theorem x_ret {te : TE} (h : te σ H D.rt) : tRet te D σ H := h
theorem x_retN (h : D.rt .non H) : tRetN D σ H := h
theorem x_drop {te : TE} (h : te σ H fun _ H1 => D.nx σ H1) : tDrop te D σ H := h
theorem x_ifs {c : TT} {t u : TS} (h : c σ H fun b H1 => if b = true then t D σ H1 else u D σ H1) : tIfS c t u D σ H := h
theorem x_var {i : Nat} {v : V} (e : σ[i]? = some (some v)) (h : Q v H) : tVar i σ H Q := ⟨v, e, h⟩
theorem x_c {v : V} (h : Q v H) : tC v σ H Q := h
theorem x_op {r : R2} {ta tb : TE} (h : ta σ H fun x H1 => tb σ H1 fun y H2 => r x y H2 Q) : tOp r ta tb σ H Q := h
theorem x_un {r : V → Hp → VK → Prop} {ta : TE} (h : ta σ H fun x H1 => r x H1 Q) : tUn r ta σ H Q := h
theorem x_test {te : TE} {R : Bool → Hp → Prop} (h : te σ H fun x H1 => ∃ k, x = .bl k ∧ R k H1) : tTest te σ H R := h
theorem x_B {te : TE} {R : Bool → Hp → Prop} (h : te σ H fun x H1 => ∃ k, x = .bl k ∧ R k H1) : tB te σ H R := h
theorem x_bl {k : Bool} {R : Bool → Prop} (h : R k) : ∃ k', V.bl k = .bl k' ∧ R k' := ⟨k, rfl, h⟩
theorem x_and {t u : TT} {R : Bool → Hp → Prop} (h : t σ H fun c H1 => if c = true then u σ H1 R else R false H1) : tAnd t u σ H R := h
theorem x_or {t u : TT} {R : Bool → Hp → Prop} (h : t σ H fun c H1 => if c = true then R true H1 else u σ H1 R) : tOr t u σ H R := h
theorem x_not {t : TT} {R : Bool → Hp → Prop} (h : t σ H fun c H1 => R (!c) H1) : tNot t σ H R := h
theorem x_andV {ta tb : TE} (h : ta σ H fun x H1 => ∃ c, x = .bl c ∧ if c = true then tb σ H1 Q else Q (.bl false) H1) : tAndV ta tb σ H Q := h
theorem x_orV {ta tb : TE} (h : ta σ H fun x H1 => ∃ c, x = .bl c ∧ if c = true then Q (.bl true) H1 else tb σ H1 Q) : tOrV ta tb σ H Q := h
theorem x_notV {ta : TE} (h : ta σ H fun x H1 => ∃ c, x = .bl c ∧ Q (.bl (!c)) H1) : tNotV ta σ H Q := h
theorem x_ife {t : TT} {ta tb : TE} (h : t σ H fun c H1 => if c = true then ta σ H1 Q else tb σ H1 Q) : tIf t ta tb σ H Q := h
theorem x_isN {ta : TE} (h : ta σ H fun x H1 => Q (.bl (decide (x = .non))) H1) : tIsN ta σ H Q := h
theorem x_notN {ta : TE} (h : ta σ H fun x H1 => Q (.bl (!decide (x = .non))) H1) : tNotN ta σ H Q := h
theorem x_nil {R : List V → Hp → Prop} (h : R [] H) : tNil σ H R := h
theorem x_cons {ta : TE} {tr : TA} {R : List V → Hp → Prop} (h : ta σ H fun x H1 => tr σ H1 fun xs H2 => R (x :: xs) H2) : tCons ta tr σ H R := h
theorem x_cb {r : List V → Hp → VK → Prop} {t : TA} (h : t σ H fun vs H1 => r vs H1 Q) : tCB r t σ H Q := h
theorem x_call {sp : Sp} {dvs : List V} {E : XK} {t : TA} (h : t σ H fun vs H1 => sp (vs ++ dvs) H1 Q E) : tCall sp dvs E t σ H Q := h
theorem x_callL {i : Nat} {f : Addr} {sp : Sp} {dvs : List V} {E : XK} {t : TA} (e : σ[i]? = some (some (.ref f))) (h : t σ H fun vs H1 => sp (vs ++ dvs) H1 Q E) : tCallL i f sp dvs E t σ H Q := ⟨e, h⟩
theorem x_gname {i : Nat} {v : V} {R : L2.St → Hp → Prop} (h : R (σ.set i (some v)) H) : gName i v σ H R := h
/-- ints -/
theorem x_I0 {g : Int → Int → V} {i j : Int} (h : Q (g i j) H) : rI0 g (.int i) (.int j) H Q := ⟨i, j, rfl, rfl, h⟩
theorem x_I {C : Int → Int → Prop} {g : Int → Int → V} {i j : Int} (c : C i j) (h : Q (g i j) H) : rI C g (.int i) (.int j) H Q := ⟨i, j, rfl, rfl, c, h⟩
theorem x_U {g : Int → V} {i : Int} (h : Q (g i) H) : rU g (.int i) H Q := ⟨i, rfl, h⟩
theorem x_eq {x y : V} (c : scal x y = true) (h : Q (.bl (decide (x = y))) H) : rEq x y H Q := ⟨c, h⟩
theorem x_ne {x y : V} (c : scal x y = true) (h : Q (.bl (!decide (x = y))) H) : rNe x y H Q := ⟨c, h⟩
/-- displays -/
theorem x_tup {t : TA} (h : t σ H fun xs H1 => xs.length ≤ sizeLine ∧ ∀ p, H1 p = none → Q (.ref p) (upd H1 p (.tup xs))) : tTup t σ H Q := h
theorem x_lst {t : TA} (h : t σ H fun xs H1 => xs.length ≤ sizeLine ∧ ∀ p, H1 p = none → Q (.ref p) (upd H1 p (.lst xs))) : tLst t σ H Q := h
theorem x_alT {xs : List V} (z : xs.length ≤ sizeLine) (e : Ex G H) (h : ∀ p G1 H1, St G H G1 H1 → G1 p = some (.tup xs) → Q (.ref p) H1) : xs.length ≤ sizeLine ∧ ∀ p, H p = none → Q (.ref p) (upd H p (.tup xs)) :=
  ⟨z, fun p hp => al hp e fun G1 H1 s g => h p G1 H1 s g⟩
theorem x_alL {xs : List V} (z : xs.length ≤ sizeLine) (e : Ex G H) (h : ∀ p G1 H1, St G H G1 H1 → G1 p = some (.lst xs) → Q (.ref p) H1) : xs.length ≤ sizeLine ∧ ∀ p, H p = none → Q (.ref p) (upd H p (.lst xs)) :=
  ⟨z, fun p hp => al hp e fun G1 H1 s g => h p G1 H1 s g⟩
theorem x_alLm {xs : List V} (z : xs.length ≤ sizeLine) (e : Ex G H) (h : ∀ p H1, H p = none → St G H G H1 → Mu G H1 p (.lst xs) → Q (.ref p) H1) : xs.length ≤ sizeLine ∧ ∀ p, H p = none → Q (.ref p) (upd H p (.lst xs)) :=
  ⟨z, fun p hp => alm hp e fun H1 s m _ => h p H1 hp s m⟩
end
/-! ### promises of pure defs -/
section
variable {α β γ δ ρ : Type}
def Sp1 (A : Rp α) (R : Rp ρ) (pre : α → Prop) (f : α → ρ) : Sp := fun vs H Q _ => ∃ G x a, vs = [x] ∧ Ex G H ∧ A G x a ∧ pre a ∧ ∀ G1 H1 r, St G H G1 H1 → R G1 r (f a) → Q r H1
def Sp2 (A : Rp α) (B : Rp β) (R : Rp ρ) (pre : α → β → Prop) (f : α → β → ρ) : Sp := fun vs H Q _ => ∃ G x y a b, vs = [x, y] ∧ Ex G H ∧ A G x a ∧ B G y b ∧ pre a b ∧ ∀ G1 H1 r, St G H G1 H1 → R G1 r (f a b) → Q r H1
def Sp3 (A : Rp α) (B : Rp β) (C : Rp γ) (R : Rp ρ) (pre : α → β → γ → Prop) (f : α → β → γ → ρ) : Sp := fun vs H Q _ => ∃ G x y z a b c, vs = [x, y, z] ∧ Ex G H ∧ A G x a ∧ B G y b ∧ C G z c ∧ pre a b c ∧ ∀ G1 H1 r, St G H G1 H1 → R G1 r (f a b c) → Q r H1
def Sp4 (A : Rp α) (B : Rp β) (C : Rp γ) (D : Rp δ) (R : Rp ρ) (pre : α → β → γ → δ → Prop) (f : α → β → γ → δ → ρ) : Sp := fun vs H Q _ => ∃ G x y z u a b c d, vs = [x, y, z, u] ∧ Ex G H ∧ A G x a ∧ B G y b ∧ C G z c ∧ D G u d ∧ pre a b c d ∧ ∀ G1 H1 r, St G H G1 H1 → R G1 r (f a b c d) → Q r H1
variable {A : Rp α} {B : Rp β} {C : Rp γ} {D : Rp δ} {R : Rp ρ} {G H : Hp} {Q : VK} {E : XK}
theorem u1 {vs : List V} {x : V} {a : α} {pre : α → Prop} {f : α → ρ} (e : Ex G H) (hv : vs = [x]) (ha : A G x a) (hp : pre a) (h : ∀ G1 H1 r, St G H G1 H1 → R G1 r (f a) → Q r H1) : Sp1 A R pre f vs H Q E := ⟨G, x, a, hv, e, ha, hp, h⟩
theorem u2 {vs : List V} {x y : V} {a : α} {b : β} {pre : α → β → Prop} {f : α → β → ρ} (e : Ex G H) (hv : vs = [x, y]) (ha : A G x a) (hb : B G y b) (hp : pre a b) (h : ∀ G1 H1 r, St G H G1 H1 → R G1 r (f a b) → Q r H1) : Sp2 A B R pre f vs H Q E := ⟨G, x, y, a, b, hv, e, ha, hb, hp, h⟩
theorem u3 {vs : List V} {x y z : V} {a : α} {b : β} {c : γ} {pre : α → β → γ → Prop} {f : α → β → γ → ρ} (e : Ex G H) (hv : vs = [x, y, z]) (ha : A G x a) (hb : B G y b) (hc : C G z c) (hp : pre a b c) (h : ∀ G1 H1 r, St G H G1 H1 → R G1 r (f a b c) → Q r H1) : Sp3 A B C R pre f vs H Q E := ⟨G, x, y, z, a, b, c, hv, e, ha, hb, hc, hp, h⟩
theorem u4 {vs : List V} {x y z u : V} {a : α} {b : β} {c : γ} {d : δ} {pre : α → β → γ → δ → Prop} {f : α → β → γ → δ → ρ} (e : Ex G H) (hv : vs = [x, y, z, u]) (ha : A G x a) (hb : B G y b) (hc : C G z c) (hd : D G u d) (hp : pre a b c d) (h : ∀ G1 H1 r, St G H G1 H1 → R G1 r (f a b c d) → Q r H1) : Sp4 A B C D R pre f vs H Q E := ⟨G, x, y, z, u, a, b, c, d, hv, e, ha, hb, hc, hd, hp, h⟩
end
theorem ite_b2 {A B : Prop} {b : Bool} (h1 : b = true → A) (h2 : b = false → B) : if b = true then A else B := by
  cases b with
  | true => rw [if_pos rfl]; exact h1 rfl
  | false => rw [if_neg Bool.false_ne_true]; exact h2 rfl
theorem ite_T {A B : Prop} {b : Bool} (h : b = true) (x : A) : if b = true then A else B := by rw [if_pos h]; exact x
theorem ite_F {A B : Prop} {b : Bool} (h : b = false) (x : B) : if b = true then A else B := by rw [h, if_neg Bool.false_ne_true]; exact x
/-! ### comprehensions over a list -/
def LcGo (K : PySem.W.Frag) (v : V) (gt : TG) (tt : TT) (te : TE) (vs : List Nat) (σ : L2.St) (H1 : Hp) (Q : VK) : Prop :=
  ∃ a, v = .ref a ∧ (∃ xs, SqL K H1 a xs) ∧ ∀ D, H1 D = none → ∃ W : Nat → Nat → Hp → Prop, (∃ m, W 0 m (upd H1 D (.lst []))) ∧ ∀ i m H, W i m H →
  ((Itl K a).stop i H ∧ Q (.ref D) H) ∨ ((Itl K a).go i H ∧ ∃ Nx : Hp → Prop, (∀ H', Nx H' → ∃ m', m' < m ∧ W (i + 1) m' H') ∧ ∀ x H', (Itl K a).yld i H x H' → gt x (wipe σ vs) H' fun σ2 H2 => wipe σ2 vs = wipe σ vs ∧ tt σ2 H2 fun b H3 =>
    if b = true then te σ2 H3 fun y H4 => ∃ acc, H4 D = some (.lst acc) ∧ acc.length < sizeLine ∧ Nx (upd H4 D (.lst (acc ++ [y]))) else Nx H3)
theorem x_lc {K : PySem.W.Frag} {tl te : TE} {gt : TG} {tt : TT} {vs : List Nat} {σ : L2.St} {H : Hp} {Q : VK} (h : tl σ H fun v H1 => LcGo K v gt tt te vs σ H1 Q) : tLc (iList K tl) gt tt te vs σ H Q := h
theorem sq {K : PySem.W.Frag} {H : Hp} {a : Addr} {xs : List V} (h : H a = some (.lst xs)) : SqL K H a xs := .inl (.inl h)
theorem sqt {K : PySem.W.Frag} {H : Hp} {a : Addr} {xs : List V} (h : H a = some (.tup xs)) : SqT K H a xs := .inl (.inl h)
theorem take_more {α : Type} : ∀ {l : List α} {i : Nat} {x : α}, l[i]? = some x → l.take (i + 1) = l.take i ++ [x]
  | [], i, x, h => by simp at h
  | a :: l, 0, x, h => by
    have e : a = x := Option.some.inj h
    subst e; rfl
  | a :: l, i + 1, x, h => by
    have ih := take_more (l := l) (i := i) (x := x) h
    show a :: l.take (i + 1) = a :: l.take i ++ [x]
    rw [ih]; rfl
theorem lcG {α β : Type} {K : PySem.W.Frag} {R : Rp α} {S : Rp β} (mR : Mono R) (mS : Mono S) {G H : Hp} {v : V} {xs : List α} {gt : TG} {tt : TT} {te : TE} {vs : List Nat} {σ : L2.St} {Q : VK} (f : α → Bool) (g : α → β)
    (e : Ex G H) (hx : IsL R G v xs) (hz : xs.length < sizeLine)
    (turn : ∀ (x : α) (w : V) (G1 H1 : Hp) (N0 : Hp → Prop) (N1 : VK), x ∈ xs → St G H G1 H1 → R G1 w x → (∀ G2 H2, St G1 H1 G2 H2 → f x = false → N0 H2) → (∀ G2 H2 y, St G1 H1 G2 H2 → S G2 y (g x) → f x = true → N1 y H2) →
      gt w (wipe σ vs) H1 fun σ2 H2 => wipe σ2 vs = wipe σ vs ∧ tt σ2 H2 fun b H3 => if b = true then te σ2 H3 N1 else N0 H3)
    (done : ∀ G1 H1 D, St G H G1 H1 → IsL S G1 (.ref D) ((xs.filter f).map g) → Q (.ref D) H1) : LcGo K v gt tt te vs σ H Q := by
  obtain ⟨p, ws, rfl, hp, hr⟩ := hx
  refine ⟨p, rfl, ⟨ws, sq (e _ _ hp)⟩, fun D hD => ?_⟩
  have hl : ws.length = xs.length := paired_len hr
  refine lc_list (K := K) (a := p) (xs := ws) (fun i H' => ∃ G' ys, St G H G' H' ∧ Mu G' H' D (.lst ys) ∧ Paired (S G') ys (((xs.take i).filter f).map g)) ?_ ?_ ?_ ?_
  · obtain ⟨s, m⟩ := almF (o := .lst []) hD e
    exact ⟨G, [], s, m, .nil⟩
  · rintro i H' _ ⟨G', ys, s, _, _⟩
    exact sq (s.i _ _ (s.g _ _ hp))
  · rintro i w H' hi ⟨G', ys, s, m, ps⟩
    obtain ⟨x, hxi, rx⟩ := paired_get hr hi
    have hmem : x ∈ xs := List.mem_of_getElem? hxi
    have hfl : (((xs.take i).filter f).map g).length < sizeLine := by
      refine Nat.lt_of_le_of_lt ?_ hz
      rw [List.length_map]
      refine Nat.le_trans (List.length_filter_le _ _) ?_
      rw [List.length_take]; exact Nat.min_le_right _ _
    refine turn x w G' H' _ _ hmem s (mR _ _ _ _ s.g rx) (fun G2 H2 s2 hf => ?_) (fun G2 H2 y s2 hy hf => ?_)
    · refine ⟨G2, ys, s.trans s2, s2.mu m, ?_⟩
      rw [take_more hxi, List.filter_append, List.map_append]
      have : List.filter f [x] = [] := by simp [hf]
      rw [this, List.map_nil, List.append_nil]
      exact paired_imp (fun a b q => mS _ _ a b s2.g q) ps
    · have m2 := s2.mu m
      refine ⟨ys, m2.1, ?_, ?_⟩
      · rw [paired_len ps]; exact hfl
      · obtain ⟨s3, m3⟩ := chgF (o' := .lst (ys ++ [y])) m2 s2.i
        refine ⟨G2, ys ++ [y], Stm.fresh (s.trans s2) s3 (fun a z => by rw [List.mem_singleton.mp z]; exact hD), m3, ?_⟩
        rw [take_more hxi, List.filter_append, List.map_append]
        have : List.filter f [x] = [x] := by simp [hf]
        rw [this]
        exact paired_snoc hy (paired_imp (fun a b q => mS _ _ a b s2.g q) ps)
  · rintro H' ⟨G', ys, s, m, ps⟩
    rw [hl, List.take_length] at ps
    obtain ⟨s2, g2⟩ := freeze m s.i
    exact done (upd G' D (.lst ys)) H' D (Stm.fresh s s2 (fun a z => by rw [List.mem_singleton.mp z]; exact hD)) ⟨D, ys, rfl, g2, paired_imp (fun a b q => mS _ _ a b s2.g q) ps⟩
end G

/-! ## GDict -/
set_option Elab.async false
set_option linter.all false
set_option maxRecDepth 100000
set_option maxHeartbeats 2000000
namespace G
open PySem PySem.Spec PyProof.Rows L2
/-! ### a dict whose keys are pairs of an int and an int or None -/
abbrev Rn := Int × Option Int
def nk2 : Option Int → NestedKey
  | none => .none
  | some i => .num i
def nk (r : Rn) : NestedKey := .tup [.num r.1, nk2 r.2]
theorem nk_inj {a b : Rn} (h : nk a = nk b) : a = b := by
  obtain ⟨a1, a2⟩ := a
  obtain ⟨b1, b2⟩ := b
  unfold nk at h
  injection h with h
  injection h with h1 h2
  injection h1 with h1
  injection h2 with h2 _
  cases a2 <;> cases b2 <;> simp_all [nk2]
theorem nk_depth (r : Rn) : (nk r).depth ≤ 8 := by
  obtain ⟨a, b⟩ := r
  cases b <;> simp [nk, nk2, NestedKey.depth, NestedKey.depthAll]
abbrev Xs := List (Rn × Addr × V)
abbrev Us := List (NestedKey × Addr × Value)
def RX (x : Rn × Addr × V) (u : NestedKey × Addr × Value) : Prop := u.1 = nk x.1 ∧ u.2.1 = x.2.1 ∧ RelV x.2.2 u.2.2
def dxP (P : Program) (w : World) (d : Addr) (xs : Xs) (h : Heap) : Prop :=
  (d == sysModules) = false ∧ xs.length ≤ sizeLine ∧ ∃ (us : Us) (o : Obj) (es : Array DictEntry) (ep : Nat), Paired RX xs us ∧ h.get? d = some o ∧ o.ExactDict ∧ o.data = .dict es ep ∧ es.toList = us.map (entryOfKey (nestedKind P w)) ∧ (us.map (·.1)).Nodup
def dxO (P : Program) (w : World) (d : Addr) (xs : Xs) : HO := .ext fun h => dxP P w d xs h
theorem dxO_ok {P : Program} {w : World} {H : Hp} {h : Heap} {d : Addr} {xs : Xs} (x : dxP P w d xs h) : ObjOk P w H h d (dxO P w d xs) := by
  refine ⟨x, ?_, fun h1 h2 a k => ?_⟩
  · obtain ⟨_, _, _, o, _, _, _, ho, _⟩ := x
    exact ⟨o, ho⟩
  · obtain ⟨h0, hz, us, o, es, ep, hp, ho, r⟩ := a
    exact ⟨h0, hz, us, o, es, ep, hp, k o ho, r⟩
/-- the keys' tuples stand -/
def KX (H : Hp) (xs : Xs) : Prop := ∀ x ∈ xs, H x.2.1 = some (.tup [.int x.1.1, optV x.1.2])
theorem is_key {P : Program} {w : World} {H : Hp} {h : Heap} {t : Addr} {r : Rn} (ok : HOk P w H h) (ht : H t = some (.tup [.int r.1, optV r.2])) : (nestedKind P w).is h (nk r) t := by
  obtain ⟨_, its, rv, o, h1, h2, n, h3⟩ := (show ObjOk P w H h t (.tup _) from ok t _ ht)
  refine ⟨?_, nk_depth r⟩
  obtain ⟨r1, r2⟩ := r
  cases rv with
  | cons ra rb =>
    cases rb with
    | cons rb rc =>
      cases rc
      obtain ⟨tk, rfl⟩ := ra
      refine .tup h1 h2 h3 ?_
      show NestedAll h _ [_, _]
      refine .cons (.int _ _) (.cons ?_ .nil)
      cases r2 with
      | none => cases rb; exact .none
      | some i => obtain ⟨tk2, rfl⟩ := rb; exact .int _ _
/-- the entries as the library's dict -/
theorem dx_ofH {P : Program} {w : World} {H : Hp} {h : Heap} {d : Addr} {xs : Xs} (ok : HOk P w H h) (hd : H d = some (dxO P w d xs)) (kx : KX H xs) :
    (d == sysModules) = false ∧ xs.length ≤ sizeLine ∧ ∃ us : Us, Paired RX xs us ∧ h.DictOfH (nestedKind P w) d us := by
  obtain ⟨⟨h0, hz, us, o, es, ep, hp, ho, h1, h2, h3, h4⟩, _⟩ := (show ObjOk P w H h d (dxO P w d xs) from ok d _ hd)
  refine ⟨h0, hz, us, hp, o, es, ep, ho, h1, h2, h3, fun u hu => ?_, h4⟩
  obtain ⟨j, hj⟩ := List.mem_iff_getElem?.mp hu
  obtain ⟨x, hx, r1, r2, _⟩ := paired_get' hp hj
  rw [r1, r2]
  exact is_key ok (kx x (List.mem_of_getElem? hx))
theorem dx_back {P : Program} {w : World} {h : Heap} {d : Addr} {xs : Xs} {us : Us} (h0 : (d == sysModules) = false) (hz : xs.length ≤ sizeLine) (hp : Paired RX xs us) (dd : h.DictOfH (nestedKind P w) d us) : dxP P w d xs h := by
  obtain ⟨o, es, ep, ho, h1, h2, h3, _, h4⟩ := dd
  exact ⟨h0, hz, us, o, es, ep, hp, ho, h1, h2, h3, h4⟩
def valX (xs : Xs) (r : Rn) : Option V := (xs.find? fun x => decide (x.1 = r)).map (·.2.2)
def dropX (xs : Xs) (r : Rn) : Xs := xs.filter fun x => decide (x.1 ≠ r)
theorem valX_rel : ∀ {xs : Xs} {us : Us} (r : Rn), Paired RX xs us → RelO (valX xs r) ((atKey us (nk r)).map (·.2))
  | _, _, r, .nil => trivial
  | x :: xs, u :: us, r, .cons q t => by
    unfold valX atKey
    by_cases c : x.1 = r
    · have e1 : (List.find? (fun x => decide (x.1 = r)) (x :: xs)) = some x := by rw [List.find?_cons, decide_eq_true c]
      have e2 : (List.find? (fun x => decide (x.1 = nk r)) (u :: us)) = some u := by rw [List.find?_cons, decide_eq_true (by rw [q.1, c])]
      rw [e1, e2]
      exact q.2.2
    · have e1 : (List.find? (fun x => decide (x.1 = r)) (x :: xs)) = List.find? (fun x => decide (x.1 = r)) xs := by rw [List.find?_cons, decide_eq_false c]
      have e2 : (List.find? (fun x => decide (x.1 = nk r)) (u :: us)) = List.find? (fun x => decide (x.1 = nk r)) us := by rw [List.find?_cons, decide_eq_false (fun z => c (by rw [q.1] at z; exact nk_inj z))]
      rw [e1, e2]
      exact valX_rel r t
theorem dropX_rel : ∀ {xs : Xs} {us : Us} (r : Rn), Paired RX xs us → Paired RX (dropX xs r) (withoutH us (nk r))
  | _, _, r, .nil => .nil
  | x :: xs, u :: us, r, .cons q t => by
    have ih := dropX_rel r t
    unfold dropX withoutH at ih ⊢
    by_cases c : x.1 = r
    · have e1 : decide (x.1 ≠ r) = false := by simp [c]
      have e2 : decide (u.1 ≠ nk r) = false := by simp [q.1, c]
      rw [List.filter_cons, List.filter_cons, e1, e2]
      exact ih
    · have e1 : decide (x.1 ≠ r) = true := by simp [c]
      have e2 : decide (u.1 ≠ nk r) = true := by
        have z : ¬ u.1 = nk r := fun z => c (by rw [q.1] at z; exact nk_inj z)
        simp [z]
      rw [List.filter_cons, List.filter_cons, e1, e2]
      exact .cons q ih

theorem dx_typeIs {P : Program} {w : World} {d : Addr} {xs : Xs} {s : Shared} (x : dxP P w d xs s.heap) : s.TypeIs (.ref d) "dict" ∧ ∀ a, Value.ref d = .ref a → ∃ ob, s.heap.get? a = some ob ∧ ob.dict = none := by
  obtain ⟨_, _, _, o, _, _, _, ho, h1, _⟩ := x
  refine ⟨⟨o, ho, h1.1⟩, fun a e => ?_⟩
  cases e
  exact ⟨o, ho, h1.2.1⟩
section
variable {X : Cx}
def tDNewX (P : Program) (w : World) : TE := fun _ H Q => ∀ p, H p = none → Q (.ref p) (upd H p (dxO P w p []))
theorem pe_dnewX {pos : Pos} : PE X (.Dict [] [] pos) (tDNewX X.prog X.w) := ⟨fun pins s σ H Q I h =>
  wpAny_Dict_empty ⟨.ref s.heap.objs.size, _, I.laid (a := s.heap.objs.size) (o := dxO X.prog X.w s.heap.objs.size []) (t' := s.toks) (fun _ _ q => Heap.get?_push_of_some _ q) (Nat.le_refl _)
    (dxO_ok ⟨beq_eq_false_iff_ne.mpr (Ne.symm (Nat.ne_of_lt I.big)), Nat.zero_le _, [], _, #[], 0, .nil, Heap.get?_push_size _ rfl, ⟨rfl, rfl, rfl⟩, rfl, rfl, List.nodup_nil⟩), rfl, h _ (I.hok.fresh (Nat.le_refl _))⟩⟩
/-- a method of such a dict -/
def tBMX (P : Program) (w : World) (r : V → List V → Hp → VK → Prop) (to : TE) (t : TA) : TE := fun σ H Q => to σ H fun x H1 => (∃ d xs, x = .ref d ∧ H1 d = some (dxO P w d xs)) ∧ t σ H1 fun ys H2 => r x ys H2 Q
theorem pe_bmX {o e : Expr} {es : List Expr} {to : TE} {t : TA} {name : Str} {apos cpos : Pos} {id : String} {r : V → List V → Hp → VK → Prop} (slot : Slot "dict" name id) (hty : typeOf (.builtin id) = pure (.type "method_descriptor")) (hm : MtR X id r) (ho : PE X o to) (ha : PA X (e :: es) t)
    (hbase : attributeBase o name X.env (eval o X.env) = eval o X.env := by rfl)
    (hfew : ((backTo cpos (starEach (e :: es) X.env)).all (fun x => !x.1) && (backToKw cpos (keywordEach [] X.env)).all (fun x => x.1.isSome)
      && decide ((e :: es).length + ([] : List Keyword).length + (if ([] : List Keyword).isEmpty then 0 else 1) < 30)) = true := by rfl)
    (hline : (apos.endLine == cpos.line) = true := by rfl) (hs : starEach (e :: es) X.env = (false, eval e X.env) :: starEach es X.env := by rfl) (hplain : (backTo cpos (starEach es X.env)).any (·.1) = false := by rfl) :
    PE X (.Call (.Attribute o name apos) (e :: es) [] cpos) (tBMX X.prog X.w r to t) := by
  refine ⟨fun pins s σ H Q I h => ?_⟩
  refine wpAny_Call_method_late hbase hfew hline rfl (thn (ho.run pins s σ H _ I h) fun v s1 ⟨x, H1, I1, r1, ty, q1⟩ => ?_)
  obtain ⟨d, xs, rfl, hd⟩ := ty
  cases r1
  obtain ⟨h1, h2⟩ := dx_typeIs (show ObjOk X.prog X.w H1 s1.heap d (dxO X.prog X.w d xs) from I1.hok d _ hd).1
  refine ⟨"dict", id, PySem.F.plainAttrs_dict, slot, hty, h1, h2, ?_⟩
  have hA := ha.run cpos pins s1 σ H1 _ I1 q1
  rw [hs] at hA ⊢
  refine Calls.callWith_builtin (by show (false || (backTo cpos (starEach es X.env)).any (·.1)) = false; rw [hplain] <;> rfl) (Calls.evalArgs_plain ?_)
  exact thn hA fun us s2 ⟨vs, H2, I2, r2, q2⟩ => hm pins s2 σ H2 (.ref d) vs _ us Q I2 rfl r2 q2
theorem KX.but {H : Hp} {d : Addr} {xs : Xs} {o : HO} {φ : Heap → Prop} (kx : KX H xs) (hd : H d = some (.ext φ)) : KX (upd H d o) xs := fun x hx => by
  rw [upd_ne (ne_of (kx x hx) hd (fun z => nomatch z))]; exact kx x hx
def rSetdX (P : Program) (w : World) : V → List V → Hp → VK → Prop := fun x ys H Q => ∃ (d : Addr) (xs : Xs) (t : Addr) (r : Rn) (v : V), x = .ref d ∧ ys = [.ref t, v] ∧ H d = some (dxO P w d xs) ∧ KX H xs ∧ H t = some (.tup [.int r.1, optV r.2]) ∧ xs.length < sizeLine ∧
  (∀ u, valX xs r = some u → Q u H) ∧ (valX xs r = none → Q v (upd H d (dxO P w d (xs ++ [(r, t, v)]))))
theorem room8 {A : Around} {k : Nat} (hr : Room k A) : A.in1.units + 8 < cLine := by
  have h := hr.units
  have e : A.in1.units = A.units + 1 := rfl
  omega
theorem mt_setdX {k : Nat} (hr : Room k X.A) : MtR X "dict.setdefault" (rSetdX X.prog X.w) := by
  intro pins s σ H x ys v us Q I rx rys h
  obtain ⟨d, xs, t, r, v0, rfl, rfl, hd, kx, ht, hz, q1, q2⟩ := h
  cases rx
  obtain ⟨u1, u2, rfl, r1, r2⟩ := vals2 rys
  cases r1
  obtain ⟨h0, hl, us, hp, dd⟩ := dx_ofH I.hok hd kx
  have rel := valX_rel r hp
  have hlu : us.length ≤ sizeLine := by rw [← paired_len hp]; exact hl
  refine call_setdefault_heap (hsz := hlu) (room8 hr) (is_key I.hok ht) h0 dd (fun p e => ?_) fun e h' dd' sb => ?_
  · rw [e] at rel
    obtain ⟨u, hu, ru⟩ : ∃ u, valX xs r = some u ∧ RelV u p.2 := by
      cases q : valX xs r with
      | none => rw [q] at rel; exact rel.elim
      | some u => rw [q] at rel; exact ⟨u, rfl, rel⟩
    exact ⟨u, H, I.tok _, ru, q1 u hu⟩
  · rw [e] at rel
    have hn : valX xs r = none := by
      cases q : valX xs r with
      | none => rfl
      | some u => rw [q] at rel; exact rel.elim
    rw [storedH_new e] at dd'
    have new : dxP X.prog X.w d (xs ++ [(r, t, v0)]) h' := dx_back h0 (by rw [List.length_append]; exact hz) (paired_snoc ⟨rfl, rfl, r2⟩ hp) dd'
    obtain ⟨o, _, _, ho, _⟩ := id dd'
    exact ⟨v0, _, d_write I (by rw [hd]; trivial) sb ⟨o, ho⟩ (dxO_ok new), r2, q2 hn⟩
def rPopX (P : Program) (w : World) : V → List V → Hp → VK → Prop := fun x ys H Q => ∃ (d : Addr) (xs : Xs) (t : Addr) (r : Rn) (u : V), x = .ref d ∧ ys = [.ref t] ∧ H d = some (dxO P w d xs) ∧ KX H xs ∧ H t = some (.tup [.int r.1, optV r.2]) ∧
  valX xs r = some u ∧ Q u (upd H d (dxO P w d (dropX xs r)))
theorem mt_popX {k : Nat} (hr : Room k X.A) : MtR X "dict.pop" (rPopX X.prog X.w) := by
  intro pins s σ H x ys v us Q I rx rys h
  obtain ⟨d, xs, t, r, u0, rfl, rfl, hd, kx, ht, hv, q⟩ := h
  cases rx
  obtain ⟨u1, rfl, r1⟩ := Vals.one rys
  cases r1
  obtain ⟨h0, hl, us, hp, dd⟩ := dx_ofH I.hok hd kx
  have rel := valX_rel r hp
  have hlu : us.length ≤ sizeLine := by rw [← paired_len hp]; exact hl
  rw [hv] at rel
  obtain ⟨p, e, ru⟩ : ∃ p, atKey us (nk r) = some p ∧ RelV u0 p.2 := by
    cases q : atKey us (nk r) with
    | none => rw [q] at rel; exact rel.elim
    | some p => rw [q] at rel; exact ⟨p, rfl, rel⟩
  refine call_pop_heap (more := []) (hsz := hlu) (.inl rfl) (PySem.F.args_dict_pop_2 _ _) (room8 hr) (is_key I.hok ht) h0 dd e fun h' dd' sb => ?_
  have new : dxP X.prog X.w d (dropX xs r) h' := dx_back h0 (Nat.le_trans (List.length_filter_le _ _) hl) (dropX_rel r hp) dd'
  obtain ⟨o, _, _, ho, _⟩ := id dd'
  exact ⟨u0, _, d_write I (by rw [hd]; trivial) sb ⟨o, ho⟩ (dxO_ok new), ru, q⟩
end
end G

/-! ## GDict2 -/
set_option Elab.async false
set_option linter.all false
set_option maxRecDepth 100000
set_option maxHeartbeats 2000000
namespace DT
open PySem PySem.W PySem.Calls PyProof.Rows PyProof.V PySem.Spec
section
variable {prog : Program} {w : World} {A : Around} {s : Shared} {E : Value → Shared → Prop} {es : Array DictEntry} {ep : Nat} {r d : Addr}
theorem initI {R : Result → Shared → Prop} (hh : A.handled = none) (hv : s.heap.IsItemsView r d) (hm : Raw s.heap d es ep) (S : Addr) (hSr : S ≠ r) (hSd : d ≠ S) (hS : s.heap.get? S = some { cls := .type "list", data := .seq #[] })
    (hR : ∀ h' tk acc c as, (∀ b o, b ≠ S → s.heap.get? b = some o → h'.get? b = some o) → h'.get? S = some { cls := .type "list", dict := none, data := .seq acc c, slots := #[] } → as.length = es.size → Made es S h' as →
      acc.toList = as.map Value.ref → R (.ok (.ret .none)) { s with heap := h', toks := tk }) (hn : es.size ≤ sizeLine) :
    wpAny (model prog w) A.in1 (Builtin.«list.__init__» ⟨[.ref S, .ref r], []⟩)
      (fun fin s' => match fin with | .done f => R (.ok f) s' | .again c' => c'.quiet = true ∧ codeAny (model prog w) A c' R s') (fun e s' => R (.error e) s') s := by
  show wpAny _ _ (do let old ← Builtin.List.listItems (.ref S); Builtin.List.listUpdate (.ref S) (fun _ => #[]); letGo old.toList.reverse; Builtin.List.listExtendWith (.ref S) (.ref r) .none) _ _ s
  refine wpAny_bind ?_
  unfold Builtin.List.listItems
  refine wpAny_bind (wpAny_seqItems hS rfl (wpAny_pure ?_))
  show wpAny _ _ (updateSeq S (fun _ => #[]) >>= fun _ => letGo (#[] : Array Value).toList.reverse >>= fun _ => Builtin.List.listExtendWith (.ref S) (.ref r) .none) _ _ s
  refine wpAny_bind (wpAny_updateSeq hS rfl ?_)
  have hS₂ := Heap.get?_update_self (Obj.mapSeq (fun _ => (#[] : Array Value))) hS rfl
  have oth : ∀ b o, b ≠ S → s.heap.get? b = some o → (s.heap.update S (Obj.mapSeq (fun _ => (#[] : Array Value)))).get? b = some o :=
    fun b o hb e => (Heap.get?_update_other _ _ (Ne.symm hb)).trans e
  refine wpAny_bind (wpAny_letGo ?_)
  refine extI (es := es) (ep := ep) hh (let ⟨o, ho, x⟩ := hv; ⟨o, oth r o hSr.symm ho, x⟩) (hm.at' fun o e => oth d o hSd e) S hSr hSd .none _ hS₂ (fun h' tk acc c as hk hS' hl hG hacc => ?_) hn
  exact hR h' tk acc c as (fun b o hb e => hk b o hb (oth b o hb e)) hS' hl (hG.low (Nat.le_of_lt (Heap.lt_size hS₂))) hacc
theorem callListI {Q : Value → Shared → Prop} (hh : A.handled = none) (hv : s.heap.IsItemsView r d) (hm : Raw s.heap d es ep) (hn : es.size ≤ sizeLine)
    (hQ : ∀ h' tk acc c as, (∀ b o, s.heap.get? b = some o → h'.get? b = some o) → h'.get? s.heap.objs.size = some { cls := .type "list", dict := none, data := .seq acc c, slots := #[] } → as.length = es.size → Made es s.heap.objs.size h' as →
      acc.toList = as.map Value.ref → Q (.ref s.heap.objs.size) { s with heap := h', toks := tk }) :
    wpAny (model prog w) A (call (.type "list") [.ref r]) Q E s := by
  refine callType_codes (Q₁ := fun obj s₁ => obj = .ref s.heap.objs.size ∧ s₁ = { s with heap := s.heap.push { cls := .type "list", data := .seq #[] } }) PySem.F.called_list (PySem.F.typeCall_list_1 _) PySem.F.entry_list_init
    (code_list_new _ ⟨rfl, rfl⟩) fun obj s₁ h₁ => ?_
  obtain ⟨rfl, rfl⟩ := h₁
  have hS : (s.heap.push { cls := .type "list", data := .seq #[] }).get? s.heap.objs.size = some { cls := .type "list", data := .seq #[] } := Heap.get?_push_size _ rfl
  have hr : r < s.heap.objs.size := let ⟨_, ho, _⟩ := hv; Heap.lt_size ho
  have hd : d < s.heap.objs.size := hm.lt
  refine ⟨⟨_, hS, rfl⟩, PySem.F.args_list_init_2 _ _, initI (es := es) (ep := ep) (A := A.in1) hh (let ⟨o, ho, x⟩ := hv; ⟨o, Heap.get?_push_of_some _ ho, x⟩) (hm.push _) _ (Nat.ne_of_gt hr) (Nat.ne_of_lt hd) hS (fun h' tk acc c as hk hS' hl hG hacc => ?_) hn⟩
  exact ⟨rfl, hQ h' tk acc c as (fun b o e => hk b o (Nat.ne_of_lt (Heap.lt_size e)) (Heap.get?_push_of_some _ e)) hS' hl hG hacc⟩
end
end DT
namespace G
open PySem PySem.Spec PyProof.Rows L2
/-- tuples of two, at their addresses -/
def putP : Hp → List Addr → List (V × V) → Hp
  | H, a :: as, p :: ps => putP (upd H a (.tup [p.1, p.2])) as ps
  | H, _, _ => H
theorem putP_off {b : Addr} : ∀ (as : List Addr) (ps : List (V × V)) (H : Hp), b ∉ as → putP H as ps b = H b
  | [], _, _, _ => rfl
  | _ :: _, [], _, _ => rfl
  | a :: as, p :: ps, H, h => by
    show putP (upd H a (.tup [p.1, p.2])) as ps b = H b
    rw [putP_off as ps _ (fun z => h (List.mem_cons_of_mem _ z)), upd_ne (fun z => h (by rw [z]; exact List.mem_cons_self))]
theorem putP_at : ∀ (as : List Addr) (ps : List (V × V)) (H : Hp), as.length = ps.length → as.Nodup → Paired (fun (t : Addr) (p : V × V) => putP H as ps t = some (.tup [p.1, p.2])) as ps
  | [], [], _, _, _ => .nil
  | [], _ :: _, _, h, _ => by cases h
  | _ :: _, [], _, h, _ => by cases h
  | a :: as, p :: ps, H, h, hn => by
    have hn' := List.nodup_cons.mp hn
    have ih := putP_at as ps (upd H a (.tup [p.1, p.2])) (Nat.succ.inj h) hn'.2
    refine .cons ?_ ih
    show putP (upd H a (.tup [p.1, p.2])) as ps a = some (.tup [p.1, p.2])
    rw [putP_off as ps _ hn'.1, upd_same]
def prX (x : Rn × Addr × V) : V × V := (.ref x.2.1, x.2.2)
section
variable {X : Cx}
theorem itemsX_laid {pins : List (Addr × Obj)} {σ : L2.St} {H : Hp} {s : Shared} {h' : Heap} {tk : Nat} {xs : Xs} {us : Us} {es : Array DictEntry} {acc : Array Value} {c : Nat} {as : List Addr} (I : Inv X pins σ H s) (hz : xs.length ≤ sizeLine) (hp : Paired RX xs us)
    (he : es.toList = us.map (entryOfKey (nestedKind X.prog X.w))) (hk : ∀ b o, s.heap.get? b = some o → h'.get? b = some o) (hS : h'.get? s.heap.objs.size = some { cls := .type "list", dict := none, data := .seq acc c, slots := #[] }) (hl : as.length = es.size) (hG : DT.Made es s.heap.objs.size h' as) (hacc : acc.toList = as.map Value.ref) :
    ∃ H' : Hp, (∀ b o, H b = some o → H' b = some o) ∧ H s.heap.objs.size = none ∧ (∀ t ∈ as, H t = none) ∧ s.heap.objs.size ∉ as ∧ H' s.heap.objs.size = some (.lst (as.map V.ref)) ∧ Paired (fun (t : Addr) (q : V × V) => H' t = some (.tup [q.1, q.2])) as (xs.map prX) ∧ Inv X pins σ H' { s with heap := h', toks := tk } := by
  have hes : es.size = us.length := by rw [← Array.length_toList, he, List.length_map]
  have lk : (xs.map prX).length = as.length := by rw [List.length_map, hl, hes, paired_len hp]
  have hSn : s.heap.objs.size ∉ as := fun z => Nat.lt_irrefl _ (hG.above _ z)
  have nd : as.Nodup := List.Pairwise.imp (fun {a b} (h : a < b) => Nat.ne_of_lt h) hG.rise
  have new : ∀ t ∈ as, H t = none := fun t ht => I.hok.fresh (Nat.le_of_lt (hG.above t ht))
  have newS : H s.heap.objs.size = none := I.hok.fresh (Nat.le_refl _)
  have atP := putP_at as (xs.map prX) (upd H s.heap.objs.size (.lst (as.map V.ref))) lk.symm nd
  have off : ∀ b, b ∉ as → b ≠ s.heap.objs.size → putP (upd H s.heap.objs.size (.lst (as.map V.ref))) as (xs.map prX) b = H b := fun b h1 h2 => by rw [putP_off as _ _ h1, upd_ne h2]
  have low : ∀ b o, s.heap.get? b = some o → b ∉ as ∧ b ≠ s.heap.objs.size := fun b o e => ⟨fun z => absurd (Heap.lt_size e) (Nat.not_lt.mpr (Nat.le_of_lt (hG.above b z))), Nat.ne_of_lt (Heap.lt_size e)⟩
  have kp : ∀ b u, H b = some u → (putP (upd H s.heap.objs.size (.lst (as.map V.ref))) as (xs.map prX)) b = some u := fun b u e => by
    rw [off b (fun z => by rw [new b z] at e; cases e) (fun z => by rw [z, newS] at e; cases e)]
    exact e
  have eS : putP (upd H s.heap.objs.size (.lst (as.map V.ref))) as (xs.map prX) s.heap.objs.size = some (.lst (as.map V.ref)) := by rw [putP_off as _ _ hSn, upd_same]
  refine ⟨putP (upd H s.heap.objs.size (.lst (as.map V.ref))) as (xs.map prX), kp, newS, new, hSn, eS, atP, ?_⟩
  refine I.call' (ch := []) rfl ⟨fun b o q _ _ _ => hk b o q, fun b o q _ _ _ => ⟨o.slots, hk b o q⟩, fun b o q n _ => ?_, fun b o q _ => ⟨o, hk b o q⟩, fun b xs q => kp b _ q, fun b o u q => kp b _ q, fun b ps q => ⟨#[], by rw [kp b _ q]; simp⟩⟩ (fun b u q => ?_) I.bare fun b z => by simp at z
  · obtain ⟨z1, z2⟩ := low b o q
    rw [off b z1 z2]
    exact n
  · by_cases hb : b ∈ as
    · obtain ⟨j, pk, e1, e2, e3⟩ := LiI.paired_ix atP hb
      rw [e3] at q
      cases q
      obtain ⟨en, f1, f3⟩ := hG.pairs j b e1
      rw [List.getElem?_map] at e2
      obtain ⟨x, hx, rfl⟩ := Option.map_eq_some_iff.mp e2
      obtain ⟨u, hu, r1, r2, r3⟩ := paired_get hp hx
      have f1' : es.toList[j]? = some en := by rw [Array.getElem?_toList]; exact f1
      rw [he, List.getElem?_map, hu] at f1'
      have f4 := Option.some.inj f1'
      subst f4
      refine ⟨by show 2 ≤ sizeLine; decide, [.ref u.2.1, u.2.2], .cons (by show Value.ref u.2.1 = Value.ref x.2.1; rw [r2]) (.cons r3 .nil), ⟨_, f3, rfl, _, rfl⟩⟩
    · by_cases hb2 : b = s.heap.objs.size
      · rw [hb2] at q ⊢
        rw [eS] at q
        cases q
        refine ⟨by rw [List.length_map, ← lk, List.length_map]; exact hz, acc.toList, c, by rw [hacc]; exact LiI.vals_refs as, ?_⟩
        rw [Array.toArray_toList]
        exact hS
      · rw [off b hb hb2] at q
        exact (I.hok b u q).stay (fun d v _ y => hk d v y) (fun d y => kp d _ y) fun d xs y => kp d _ y
def rItemsX (P : Program) (w : World) : V → Hp → VK → Prop := fun x H Q => ∃ (d : Addr) (xs : Xs), x = .ref d ∧ H d = some (dxO P w d xs) ∧
  ∀ (H' : Hp) (p : Addr) (ts : List Addr), (∀ b o, H b = some o → H' b = some o) → H p = none → (∀ t ∈ ts, H t = none) → p ∉ ts → H' p = some (.lst (ts.map V.ref)) → Paired (fun (t : Addr) (q : V × V) => H' t = some (.tup [q.1, q.2])) ts (xs.map prX) → Q (.ref p) H'
def tListItemsX (P : Program) (w : World) (te : TE) : TE := fun σ H Q => te σ H fun x H1 => rItemsX P w x H1 Q
theorem pe_listItemsX {e : Expr} {te : TE} {p apos cpos pos : Pos} (hc : X.calm = true) (he : PE X e te) (hg : Gl X "list") (hm : X.mg "list" = none) (hv : bootBuiltins "list" = some (.type "list")) (hbase : attributeBase e "items" X.env (eval e X.env) = eval e X.env := by rfl) (hline : (apos.endLine == cpos.line) = true := by rfl)
    (hs : starEach [.Call (.Attribute e "items" apos) [] [] cpos] X.env = (false, eval (.Call (.Attribute e "items" apos) [] [] cpos) X.env) :: starEach [] X.env := by rfl) :
    PE X (.Call (.Name "list" p) [.Call (.Attribute e "items" apos) [] [] cpos] [] pos) (tListItemsX X.prog X.w te) := by
  refine ⟨fun pins s σ H Q I hq => ?_⟩
  refine wpAny_Call_Name_kw (ld_blt I hg hm hv ?_)
  refine PyProof.Rows.callWith_type1 ?_ hs rfl
  rw [hs]
  show wpAny _ _ (spliced ((false, eval (.Call (.Attribute e "items" apos) [] [] cpos) X.env) :: backTo pos (starEach [] X.env))) _ _ s
  refine Calls.spliced_cons ?_
  refine wpAny_Call_method (T := "dict") (id := "dict.items") hbase rfl hline F.plainAttrs_dict F.slot_dict_items F.type_dict_items (thn (he.run pins s σ H _ I hq) fun u s1 ⟨x, H1, I1, rx, d, xs, ex, hd, q⟩ => ?_)
  subst ex
  obtain rfl : u = Value.ref d := rx
  obtain ⟨⟨h0, hz, us, o, es, ep, hp, ho, hx, hdat, hes, hnd⟩, _⟩ := (show ObjOk X.prog X.w H1 s1.heap d (dxO X.prog X.w d xs) from I1.hok d _ hd)
  have raw : DT.Raw s1.heap d es ep := ⟨o, ho, hx, hdat⟩
  have hsz : es.size ≤ sizeLine := by rw [← Array.length_toList, hes, List.length_map, ← paired_len hp]; exact hz
  have I2 : Inv X pins σ H1 { s1 with heap := s1.heap.push { cls := .type "dict_items", data := .fields #[.ref d] } } := I1.kept (t' := s1.toks) fun b ob q => Heap.get?_push_of_some _ q
  refine ⟨raw.typeIs, fun a e => ?_, ?_⟩
  · cases e
    exact ⟨o, ho, hx.2.1⟩
  show wpAny _ _ (callWith cpos (.builtin "dict.items") [.ref d] [] []) _ X.xe s1
  refine Calls.callWith_builtin rfl (PySem.evalArgs_none ?_)
  refine DT.callItems (es := es) (ep := ep) h0 raw ?_
  refine Calls.spliced_nil ?_
  refine DT.callListI (es := es) (ep := ep) (I1.ok.hd hc) ⟨_, Heap.get?_push_size _ rfl, rfl, rfl⟩ (raw.push _) hsz fun h' tk acc c as hk hS hl hG hacc => ?_
  obtain ⟨H', k1, k2, k3, k4, k5, k6, J⟩ := itemsX_laid (tk := tk) I2 hz hp hes hk hS hl hG hacc
  exact ⟨.ref _, H', J, rfl, q H' _ as k1 k2 k3 k4 k5 k6⟩
end
end G

/-! ## GDict3 -/
set_option Elab.async false
set_option linter.all false
set_option maxRecDepth 100000
set_option maxHeartbeats 2000000
namespace G
open PySem PySem.Spec PyProof.Rows L2
/-! ### for k, v in d.items() over such a dict, locked -/
def ItX (P : Program) (w : World) (d : Addr) (o : Obj) (xs : Xs) : It :=
  ⟨fun i H => H d = some (.frz o (dxO P w d xs)) ∧ i < xs.length, fun i H x H' => ∃ T y, xs[i]? = some y ∧ x = .ref T ∧ H T = none ∧ H' = upd H T (.tup [.ref y.2.1, y.2.2]), fun i H => H d = some (.frz o (dxO P w d xs)) ∧ xs.length ≤ i⟩
section
variable {X : Cx} {pins : List (Addr × Obj)} {σ : L2.St} {H : Hp} {s : Shared} {d : Addr} {o : Obj} {xs : Xs}
theorem frzX (I : Inv X pins σ H s) (h : H d = some (.frz o (dxO X.prog X.w d xs))) : (d == sysModules) = false ∧ s.heap.get? d = some o ∧ o.ExactDict ∧ ∃ (es : Array DictEntry) (ep : Nat) (us : Us), o.data = .dict es ep ∧ es.size = xs.length ∧ Paired RX xs us ∧ es.toList = us.map (entryOfKey (nestedKind X.prog X.w)) := by
  obtain ⟨hd, ⟨h0, hz, us, o', es, ep, hp, ho, hx, hdat, hes, _⟩, _⟩ := I.hok d _ h
  rw [hd] at ho
  cases ho
  refine ⟨h0, hd, hx, es, ep, us, hdat, ?_, hp, hes⟩
  rw [← Array.length_toList, hes, List.length_map, paired_len hp]
end
section
variable {P : Program} {w : World} {K : PySem.W.Frag} {d : Addr} {o : Obj} {es : Array DictEntry} {ep : Nat}
theorem turn_itemsX {xs : Xs} {elts : List Expr} {kk : Nat} {tpos : Pos} (it : Addr) (hod : o.data = .dict es ep) :
    Turn P w K (.Tuple elts kk tpos) (ItX P w d o xs) [it] it (fun i h => ∃ ok ov, IsItemIter h it d i xs.length ep ok ov) where
  mem := by simp
  obj := fun i h st b hb => by
    have e : b = it := by simpa using hb
    subst e
    obtain ⟨ok, ov, e⟩ := st
    exact ⟨_, e, fun v z => nomatch z⟩
  keep := fun i h h' st k => let ⟨ok, ov, e⟩ := st; ⟨ok, ov, k it (by simp) _ e⟩
  item := by
    intro X hP hw hK hc i pins s σ H E I hf st hg
    subst hP hw hK
    obtain ⟨hd, hi⟩ := hg
    obtain ⟨hs, hgd, hx, es', ep', us, hdt, hsz, hp, hes⟩ := frzX I hd
    obtain ⟨rfl, rfl⟩ := dict_ep hod hdt
    obtain ⟨y, hy⟩ : ∃ y, xs[i]? = some y := ⟨xs[i], List.getElem?_eq_getElem hi⟩
    obtain ⟨u, hu, r1, r2, r3⟩ := paired_get hp hy
    have hie : i < es'.size := by rw [hsz]; exact hi
    have hent : es'[i] = entryOfKey (nestedKind X.prog X.w) u := by
      have e1 : es'.toList[i]? = some es'[i] := by rw [Array.getElem?_toList]; exact Array.getElem?_eq_getElem hie
      rw [hes, List.getElem?_map, hu] at e1
      exact (Option.some.inj e1).symm
    have ek : es'[i].key = .ref u.2.1 := by rw [hent]; rfl
    have ev : es'[i].val = u.2.2 := by rw [hent]; rfl
    obtain ⟨ok, ov, he⟩ := st
    rw [← hsz] at he
    have hlt : it < s.heap.objs.size := Heap.lt_size he
    refine DT.nextI (es := es') (ep := ep') he ⟨o, hgd, hx, hdt⟩ hie fun h' ho hT hz hk => ?_
    rw [ek, ev] at ho hT
    refine ⟨_, rfl, wpAny_letOwnedTupleGo_items (s := { s with heap := h' }) ho fun h'' he' sb => ?_⟩
    have hT2 : h''.get? s.heap.objs.size = some { cls := .type "tuple", data := .seq #[.ref u.2.1, u.2.2] } := (sb.2 _ (Nat.ne_of_gt hlt)).trans hT
    have new : ObjOk X.prog X.w (upd H s.heap.objs.size (.tup [.ref y.2.1, y.2.2])) h'' s.heap.objs.size (.tup [.ref y.2.1, y.2.2]) :=
      ⟨by show 2 ≤ sizeLine; decide, [.ref u.2.1, u.2.2], .cons (by show Value.ref u.2.1 = Value.ref y.2.1; rw [r2]) (.cons r3 .nil), ⟨_, hT2, rfl, _, rfl⟩⟩
    have I1 : Inv X pins σ (upd H s.heap.objs.size (.tup [.ref y.2.1, y.2.2])) { s with heap := h'' } :=
      I.turnedNew (t' := s.toks) (ch := [it]) (fun b ob hb e => (sb.2 b (by simpa using hb)).trans (hk b ob (by simpa using hb) e)) hf (Nat.le_refl _) new
    refine ⟨.ref s.heap.objs.size, _, I1, rfl, ⟨_, y, hy, rfl, I.hok.fresh (Nat.le_refl _), rfl⟩, ⟨.ref u.2.1, u.2.2, ?_⟩, fun b hb => ?_⟩
    · rw [← hsz]; exact he'
    · have e : b = it := by simpa using hb
      rw [e, upd_ne (Nat.ne_of_lt hlt)]
      exact (hf it (by simp)).1
  done := by
    intro X hP hw hK hc i pins s σ H E I hf st hg
    subst hP hw hK
    obtain ⟨hd, hi⟩ := hg
    obtain ⟨f0, f1, f2, f3, f4, f5⟩ := hf it (by simp)
    obtain ⟨hs, hgd, hx, es', ep', us, hdt, hsz, hp, hes⟩ := frzX I hd
    obtain ⟨rfl, rfl⟩ := dict_ep hod hdt
    obtain ⟨ok, ov, he⟩ := st
    rw [← hsz] at he
    exact DT.endI (es := es') (ep := ep') (I.ok.hd hc) he ⟨o, hgd, hx, hdt⟩ (by omega) fun h' eb => ⟨rfl, I.turned (t' := s.toks) (fun b ob hb e => eb b ob hb e) f0 f1 f3 f4 f5⟩
  self := fun A i s Q E st h => let ⟨_, _, e⟩ := st; PySem.W.kcp_self e h
end
def iItemsX (P : Program) (w : World) (td : TE) : TI := fun σ H R => td σ H fun x H1 => ∃ d o xs, x = .ref d ∧ H1 d = some (.frz o (dxO P w d xs)) ∧ R (ItX P w d o xs) H1
section
variable {X : Cx} {e : Expr} {td : TE} {apos cpos : Pos}
theorem pi_itemsX {elts : List Expr} {kk : Nat} {tpos : Pos} (he : PE X e td) (hbase : attributeBase e "items" X.env (eval e X.env) = eval e X.env := by rfl) (hline : (apos.endLine == cpos.line) = true := by rfl) :
    PI X (.Tuple elts kk tpos) (.Call (.Attribute e "items" apos) [] [] cpos) (iItemsX X.prog X.w td) := by
  refine ⟨fun pins s σ H R I h => ?_⟩
  refine wpAny_Call_method (T := "dict") (id := "dict.items") hbase rfl hline F.plainAttrs_dict F.slot_dict_items F.type_dict_items (thn (he.run pins s σ H _ I h) fun u s1 ⟨x, H1, I1, rx, d, o, xs, ex, hd, q⟩ => ?_)
  subst ex
  obtain rfl : u = Value.ref d := rx
  obtain ⟨hs, hgd, hx, es, ep, us, hdt, hsz, hp, hes⟩ := frzX I1 hd
  have raw : DT.Raw s1.heap d es ep := ⟨o, hgd, hx, hdt⟩
  refine ⟨raw.typeIs, fun a e => ?_, ?_⟩
  · cases e
    exact ⟨o, hgd, hx.2.1⟩
  have I2 : Inv X pins σ H1 { s1 with heap := s1.heap.push { cls := .type "dict_items", data := .fields #[.ref d] } } := I1.kept (t' := s1.toks) fun b ob q => Heap.get?_push_of_some _ q
  show wpAny _ _ (callWith cpos (.builtin "dict.items") [.ref d] [] []) _ X.xe s1
  refine Calls.callWith_builtin rfl (PySem.evalArgs_none ?_)
  refine DT.callItems (es := es) (ep := ep) hs raw ?_
  refine DT.iterI (es := es) (ep := ep) ⟨_, Heap.get?_push_size _ rfl, rfl, rfl⟩ (raw.push _) (pi_one (tk := s1.toks) I2 _ (turn_itemsX _ hdt) ⟨.none, .none, ?_⟩ q)
  rw [← hsz]
  exact Heap.get?_push_size _ rfl
end
end G

/-! ## GSort -/
set_option Elab.async false
set_option linter.all false
set_option maxRecDepth 100000
set_option maxHeartbeats 4000000
namespace G
open PySem PySem.W PySem.Calls PyProof.Rows PySem.Spec L2
/-- the key def's promise: a new tuple of two ints -/
def SpKey (Good : Hp → V → Prop) (key : V → Int × Int) : Sp := fun vs H Q _ => ∃ x, vs = [x] ∧ Good H x ∧ ∀ H' t, Ex H H' → H' t = some (.tup [.int (key x).1, .int (key x).2]) → Q (.ref t) H'
noncomputable section
open Classical in
def kf (h : Heap) (v : Value) : Int × Int := if e : ∃ p : Int × Int, Srt.IsPair h v p.1 p.2 then e.choose else (0, 0)
theorem isPair_inj {h : Heap} {v : Value} {a b c d : Int} (p : Srt.IsPair h v a b) (q : Srt.IsPair h v c d) : a = c ∧ b = d := by
  obtain ⟨x, o, t, u, n, e, ho, hc, hd⟩ := p
  obtain ⟨x', o', t', u', n', e', ho', hc', hd'⟩ := q
  rw [e] at e'
  cases e'
  rw [ho] at ho'
  cases ho'
  rw [hd] at hd'
  injection hd' with hd'
  have z := congrArg Array.toList hd'
  simp at z
  exact ⟨z.1.1, z.2.1⟩
theorem kf_eq {h : Heap} {v : Value} {a b : Int} (p : Srt.IsPair h v a b) : kf h v = (a, b) := by
  have e : ∃ p : Int × Int, Srt.IsPair h v p.1 p.2 := ⟨(a, b), p⟩
  unfold kf
  rw [dif_pos e]
  obtain ⟨h1, h2⟩ := isPair_inj e.choose_spec p
  exact Prod.ext h1 h2
section
variable {X : Cx} {pins : List (Addr × Obj)} {σ : L2.St} {H : Hp} {k : Nat} {f : Addr} {fd : FuncData} {ps : List Str} {key : V → Int × Int} {Good : Hp → V → Prop}
/-- one key is asked for -/
theorem key_call (F : FnOk X.prog X.w X.K X.mg X.base CX0 k f fd ps (SpKey Good key)) (hb : Binds X.K fd ps []) {A : Around} (hA : Room k A) (hf : A.frames = X.A.frames) {s : Shared} {x : V} {v : Value} (I : Inv X pins σ H s) (rx : RelV x v) (hg : Good H x)
    {E : Value → Shared → Prop} {Q : Value → Shared → Prop}
    (h : ∀ u H' s', Inv X pins σ H' s' → Ex H H' → (∀ b o, s.heap.get? b = some o → FpOk X pins H b → s'.heap.get? b = some o ∧ H' b = none) → (∃ t, u = .ref t ∧ H' t = some (.tup [.int (key x).1, .int (key x).2])) → Q u s') :
    wpAny (model X.prog X.w) A (call (.ref f) [v]) Q E s := by
  have hsp : SpKey Good key [x] H (fun u H' => ∃ t, u = .ref t ∧ Ex H H' ∧ H' t = some (.tup [.int (key x).1, .int (key x).2])) (fun _ _ _ => False) := ⟨x, rfl, hg, fun H' t e ht => ⟨t, rfl, e, ht⟩⟩
  have e0 : Env0 X.prog X.w X.K X.mg X.base A X.stack s H := by
    have e := I.env0
    exact ⟨by rw [hf]; exact e.frames, e.mod, e.bs, e.bsz, e.funs, e.frf, e.hok, e.bare⟩
  have hl := F.len _ _ _ _ hsp
  refine wpAny_call (codeAny_mono (F.run A X.stack s H ⟨[v], []⟩ [v] [x] _ _ hA e0 (by
    have := hb s [v] I.kIn (by simpa using hl)
    simpa using this) (.cons rx .nil) hsp) fun r s' hq => ?_)
  cases r with
  | error e => exact hq.elim
  | ok fl =>
    cases fl with
    | ret u =>
      have hq' : CE X.stack X.prog X.w H s (fun u H' => ∃ t, u = .ref t ∧ Ex H H' ∧ H' t = some (.tup [.int (key x).1, .int (key x).2])) u s' := hq
      obtain ⟨v', H', hos, hbare, un, hok, rv, t, rfl, ex, ht⟩ := id hq'
      obtain ⟨v2, H2, I2, rv2, t2, rfl, ex2, ht2⟩ := I.after (Q := fun u H'' => ∃ t, u = .ref t ∧ Ex H H'' ∧ H'' t = some (.tup [.int (key x).1, .int (key x).2]) ∧ H'' = H') ⟨.ref t, H', hos, hbare, un, hok, rv, t, rfl, ex, ht, rfl⟩
      obtain ⟨ht2, rfl⟩ := ht2
      cases rv2
      refine h (.ref t2) H2 s' I2 ex2 (fun b o e fp => ?_) ⟨t2, rfl, ht2⟩
      have hb : b ∉ frs X.stack := fun z => by
        rcases List.mem_cons.mp (I.stkSub b z) with e1 | e1
        · exact fp.2.1 e1
        · exact fp.2.2.1 e1
      exact ⟨un.keep b o e fp.1 hb (fun z => nomatch z), un.free b o e fp.1 (fun z => nomatch z)⟩
    | next => exact False.elim hq
    | brk => exact False.elim hq
    | cont => exact False.elim hq
/-- while the keys are made -/
def KSt (X : Cx) (pins : List (Addr × Obj)) (σ : L2.St) (H0 : Hp) (key : V → Int × Int) (kS a : Addr) (e1 : Nat) (xs : List V) (ks : List Value) (s : Shared) : Prop :=
  ∃ H' c, Inv X pins σ H' s ∧ Ex H0 H' ∧ FpOk X pins H' kS ∧ FpOk X pins H' a ∧ s.heap.get? kS = some (seqObj "list" ks.toArray c) ∧ s.heap.get? a = some (seqObj "list" #[] e1) ∧ kS ≠ a ∧
    Paired (fun (x : V) (k : Value) => ∃ t, k = .ref t ∧ H' t = some (.tup [.int (key x).1, .int (key x).2])) xs ks
theorem fp_to {H H' : Hp} {b : Addr} (h : FpOk X pins H b) (e : H' b = none) : FpOk X pins H' b := ⟨e, h.2⟩
theorem key_fold (F : FnOk X.prog X.w X.K X.mg X.base CX0 k f fd ps (SpKey Good key)) (hb : Binds X.K fd ps []) {A : Around} (hA : Room k A) (hf : A.frames = X.A.frames) {H0 : Hp} {kS a : Addr} {e1 : Nat} {E : Value → Shared → Prop}
    (mg : ∀ x H H', Ex H H' → Good H x → Good H' x) {body : Value → PUnit → Sem (ForInStep PUnit)}
    (hbody : ∀ (v : Value) (s : Shared) (kv : Value → Shared → Prop), wpAny (model X.prog X.w) A (call (.ref f) [v]) (fun u s' => ∃ ks c, s'.heap.get? kS = some (seqObj "list" ks c) ∧ ks.size < sizeLine ∧ kv u { s' with heap := s'.heap.update kS (Obj.mapSeq (·.push u)) }) (fun _ _ => False) s →
      wpAny (model X.prog X.w) A (body v ⟨⟩) (fun r s' => r = .yield ⟨⟩ ∧ ∃ u, kv u s') E s) :
    ∀ (r : List Value) (zs : List V) (xs : List V) (ks : List Value) (s : Shared), xs.length + zs.length ≤ sizeLine → Vals zs r → (∀ z ∈ zs, Good H0 z) → KSt X pins σ H0 key kS a e1 xs ks s →
      wpAny (model X.prog X.w) A (forIn r PUnit.unit body) (fun _ s' => ∃ ks', KSt X pins σ H0 key kS a e1 (xs ++ zs) ks' s') E s
  | [], zs, xs, ks, s, _, rv, _, h => by
    cases rv
    rw [List.forIn_nil, List.append_nil]
    exact wpAny_pure ⟨ks, h⟩
  | v :: r, z :: zs, xs, ks, s, hl, rv, hg, h => by
    cases rv with
    | cons rz rv =>
    rw [List.length_cons] at hl
    rw [List.forIn_cons]
    obtain ⟨H', c, I, ex, fk, fa, ek, ea, hne, hp⟩ := h
    have hks : ks.length = xs.length := (paired_len hp).symm
    refine wpAny_bind (wpAny_mono (hbody v s (fun u s' => KSt X pins σ H0 key kS a e1 (xs ++ [z]) (ks ++ [u]) s') ?_) (fun q s' hq => ?_) fun _ _ x => x)
    · refine key_call F hb hA hf I rz (mg z _ _ ex (hg z (List.mem_cons_self ..))) fun u H2 s2 I2 ex2 kp hu => ?_
      obtain ⟨ek2, nk2⟩ := kp kS _ ek fk
      obtain ⟨ea2, na2⟩ := kp a _ ea fa
      refine ⟨ks.toArray, c, ek2, by rw [List.size_toArray, hks]; omega, H2, _, ?_, ex.trans ex2, fp_to fk nk2, fp_to fa na2, by
        have eq : ks.toArray.push u = (ks ++ [u]).toArray := by simp
        rw [← eq]; exact get?_update_seq ek2 (·.push u), (Heap.get?_update_ne _ _ _ _ hne.symm).trans ea2, hne, ?_⟩
      · obtain ⟨g0, g1, g2, g3, g4, g5⟩ := fp_to fk nk2
        exact I2.turned (t' := s2.toks) (fun b o hb e => (Heap.get?_update_ne _ _ _ _ hb).trans e) g0 g1 g3 g4 g5
      · refine paired_snoc hu (paired_imp (fun x k ⟨t, e, ht⟩ => ⟨t, e, ex2 _ _ ht⟩) hp)
    · obtain ⟨rfl, u, h2⟩ := hq
      show wpAny (model X.prog X.w) A (forIn r PUnit.unit body) _ E s'
      have h3 := key_fold F hb hA hf mg hbody r zs (xs ++ [z]) (ks ++ [u]) s' (by rw [List.length_append]; simp only [List.length_cons, List.length_nil]; omega) rv (fun y hy => hg y (List.mem_cons_of_mem _ hy)) h2
      rw [List.append_assoc] at h3
      exact h3
theorem pair_of {H : Hp} {s : Shared} {kk : Value} {x : V} (I : Inv X pins σ H s) (h : ∃ t, kk = .ref t ∧ H t = some (.tup [.int (key x).1, .int (key x).2])) : Srt.IsPair s.heap kk (key x).1 (key x).2 := by
  obtain ⟨t, rfl, ht⟩ := h
  obtain ⟨_, its, rv, o, h1, h2, n, h3⟩ := (show ObjOk X.prog X.w H s.heap t (.tup _) from I.hok t _ ht)
  cases rv with
  | cons ra rb =>
    cases rb with
    | cons rb rc =>
      cases rc
      obtain ⟨t1, rfl⟩ := ra
      obtain ⟨t2, rfl⟩ := rb
      exact ⟨t, o, t1, t2, n, rfl, h1, h2, h3⟩
/-- lists of values in an order by the key -/
def KOrd (key : V → Int × Int) (ys : List V) : Prop := ys.Pairwise fun x y => SrtO.lexB (key y) (key x) = false
theorem key_out {xs : List V} {vs ks : List Value} {arr : List Keyed} {g : Value → Int × Int} (rv : Vals xs vs) (hk : Paired (fun (x : V) (u : Value) => g u = key x) xs ks) (hs : arr.Pairwise fun p q => SrtO.lexB (g q.1) (g p.1) = false) (hp : arr.Perm (ks.zip vs)) :
    ∃ ys, ys.Perm xs ∧ KOrd key ys ∧ Vals ys (arr.map (·.2)) := by
  have l1 : xs.length = vs.length := rv.length
  have l2 : xs.length = ks.length := paired_len hk
  have lz : (ks.zip vs).length = xs.length := by rw [List.length_zip, ← l1, ← l2, Nat.min_self]
  have m2 : (xs.zip (ks.zip vs)).map Prod.snd = ks.zip vs := List.map_snd_zip (by rw [lz]; exact Nat.le_refl _)
  have m1 : (xs.zip (ks.zip vs)).map Prod.fst = xs := List.map_fst_zip (by rw [lz]; exact Nat.le_refl _)
  obtain ⟨zs, p, q⟩ := perm_lift Prod.snd hp _ m2
  have all : ∀ z ∈ zs, RelV z.1 z.2.2 ∧ g z.2.1 = key z.1 := by
    intro z hz
    obtain ⟨j, hj⟩ := List.mem_iff_getElem?.mp (p.mem_iff.mp hz)
    obtain ⟨h1, h2⟩ := List.getElem?_zip_eq_some.mp hj
    obtain ⟨h3, h4⟩ := List.getElem?_zip_eq_some.mp h2
    obtain ⟨u, h5, h6⟩ := rv.get h1
    obtain ⟨u2, h7, h8⟩ := paired_get hk h1
    rw [h4] at h5
    rw [h3] at h7
    cases h5
    cases h7
    exact ⟨h6, h8⟩
  refine ⟨zs.map Prod.fst, ?_, ?_, ?_⟩
  · have e := p.map Prod.fst
    rw [m1] at e
    exact e
  · rw [← q] at hs
    have hs' := List.pairwise_map.mp hs
    unfold KOrd
    rw [List.pairwise_map]
    refine hs'.imp_of_mem fun {a b} ha hb' h => ?_
    rw [← (all a ha).2, ← (all b hb').2]
    exact h
  · rw [← q, List.map_map]
    clear hs q p m1 m2 lz
    induction zs with
    | nil => exact .nil
    | cons z zs ih =>
      exact .cons (all z (List.mem_cons_self ..)).1 (ih fun y hy => all y (List.mem_cons_of_mem _ hy))
theorem key_tail {A : Around} {H0 : Hp} {kS a : Addr} {e1 : Nat} {xs : List V} {ks : List Value} {s : Shared} {E : Value → Shared → Prop} {P : PySem.Fin → Shared → Prop} {st : SortSt} {ys : List V} {out : List Value} (h : KSt X pins σ H0 key kS a e1 xs ks s)
    (hz : xs.length ≤ sizeLine) (hp : ys.Perm xs) (ry : Vals ys out) (hout : ((arrOf st).map (·.2)).toList = out) (hfail : failedOf st = none)
    (hP : ∀ H' s', Inv X pins σ H' s' → Ex H0 H' → H' a = some (.lst ys) → P (.done (.ret .none)) s') : wpAny (model X.prog X.w) A (ksk_tail a false e1 (.ref kS) st) P E s := by
  obtain ⟨H', c, I, ex, fk, fa, ek, ea, hne, pp⟩ := h
  have hks : ks.length = xs.length := (paired_len pp).symm
  have s1 := Heap.SameBut.update s.heap kS (Obj.mapSeq fun _ => (#[] : Array Value))
  have ea1 : (s.heap.update kS (Obj.mapSeq fun _ => (#[] : Array Value))).get? a = some (seqObj "list" #[] e1) := (Heap.get?_update_ne _ _ _ _ hne.symm).trans ea
  have hl : out.length = xs.length := by rw [← ry.length, hp.length_eq]
  have hsz : ((arrOf st).map (·.2)).size = xs.length := by rw [← Array.length_toList, hout, hl]
  unfold ksk_tail
  try dsimp only
  refine wpAny_bind (listUpdate_at ek rfl ?_ (by rw [List.size_toArray, hks]; exact hz) (Nat.zero_le _))
  refine wpAny_bind (wpAny_letGo ?_)
  refine wpAny_bind (seqEpoch_at ea1 rfl ?_)
  refine wpAny_bind (listUpdate_at ea1 rfl ?_ (Nat.zero_le _) (by
    show ((if false = true then ((arrOf st).map (·.2)).reverse else (arrOf st).map (·.2))).size ≤ _
    rw [if_neg Bool.false_ne_true, hsz]; omega))
  rw [hfail]
  simp only [bne_self_eq_false, Bool.false_eq_true, if_false]
  have I1 : Inv X pins σ H' { s with heap := s.heap.update kS (Obj.mapSeq fun _ => (#[] : Array Value)) } := by
    obtain ⟨g0, g1, g2, g3, g4, g5⟩ := fk
    exact I.turned (t' := s.toks) (fun b o hb e => (Heap.get?_update_ne _ _ _ _ hb).trans e) g0 g1 g3 g4 g5
  obtain ⟨c2, hc2⟩ : ∃ c2, ((s.heap.update kS (Obj.mapSeq fun _ => (#[] : Array Value))).update a (Obj.mapSeq fun _ => (arrOf st).map (·.2))).get? a = some (seqObj "list" ((arrOf st).map (·.2)) c2) := ⟨_, get?_update_seq ea1 fun _ => (arrOf st).map (·.2)⟩
  refine wpAny_pure (hP (upd H' a (.lst ys)) _ (I1.take (t' := s.toks) (it := a) (fun b o hb e => (Heap.get?_update_ne _ _ _ _ hb).trans e) fa ⟨by rw [hp.length_eq]; exact hz, out, c2, ry, ?_⟩) (ex.trans (Ex.new fa.1)) upd_same)
  rw [hc2, ← hout, Array.toArray_toList]
theorem key_end {A : Around} {H0 : Hp} {kS a : Addr} {e1 : Nat} {xs : List V} {ks vs : List Value} {s : Shared} {E : Value → Shared → Prop} {P : PySem.Fin → Shared → Prop} (h : KSt X pins σ H0 key kS a e1 xs ks s) (rv : Vals xs vs) (hz : xs.length ≤ sizeLine)
    (hP : ∀ ys H' s', ys.Perm xs → KOrd key ys → Inv X pins σ H' s' → Ex H0 H' → H' a = some (.lst ys) → P (.done (.ret .none)) s') : wpAny (model X.prog X.w) A (ksk_end a false vs.toArray e1 (.ref kS) ks.toArray) P E s := by
  obtain ⟨H', c, I, ex, fk, fa, ek, ea, hne, pp⟩ := id h
  have l1 : xs.length = vs.length := rv.length
  have l2 : xs.length = ks.length := paired_len pp
  have hpair : ∀ u ∈ ks, Srt.IsPair s.heap u (kf s.heap u).1 (kf s.heap u).2 := fun u hu => by
    obtain ⟨j, hj⟩ := List.mem_iff_getElem?.mp hu
    obtain ⟨x, _, hx⟩ := paired_get' pp hj
    have ip := pair_of I hx
    rw [kf_eq ip]
    exact ip
  have hgk : Paired (fun (x : V) (u : Value) => kf s.heap u = key x) xs ks := paired_imp (fun x u hx => kf_eq (pair_of I hx)) pp
  have fin : ∀ st : SortSt, (arrOf st).toList.Pairwise (fun p q => SrtO.lexB (kf s.heap q.1) (kf s.heap p.1) = false) → (arrOf st).toList.Perm (ks.zip vs) → failedOf st = none → wpAny (model X.prog X.w) A (ksk_tail a false e1 (.ref kS) st) P E s := by
    intro st h1 h2 h3
    obtain ⟨ys, hp, ho, ry⟩ := key_out rv hgk h1 h2
    exact key_tail h hz hp ry (by rw [Array.toList_map]) h3 fun H2 s2 I2 e2 a2 => hP ys H2 s2 hp ho I2 e2 a2
  have ez : (ks.toArray.zip vs.toArray).toList = ks.zip vs := ksk_zip _ _
  unfold ksk_end
  try dsimp only
  simp only [Bool.false_eq_true, if_false]
  by_cases h2 : vs.toArray.size < 2
  · rw [if_pos h2, if_pos h2]
    refine wpAny_bind (wpAny_pure ?_)
    rw [StateT.run_pure]
    refine wpAny_bind (wpAny_pure ?_)
    try dsimp only
    refine fin (SortSt.mk' general' (ks.toArray.zip vs.toArray) #[] 7 none) ?_ (by show (ks.toArray.zip vs.toArray).toList.Perm _; rw [ez]) rfl
    show ((ks.toArray.zip vs.toArray).toList).Pairwise _
    rw [ez]
    rw [List.size_toArray] at h2
    match ks, vs, h2 with
    | [], _, _ => exact .nil
    | _ :: _, [], _ => simp
    | _ :: _, [_], _ => rw [List.zip_cons_cons, List.zip_nil_right]; exact List.pairwise_singleton _ _
    | _ :: _, _ :: _ :: l, h => exact absurd h (by rw [List.length_cons, List.length_cons]; omega)
  · rw [if_neg h2, if_neg h2]
    have hlen : 2 ≤ ks.length := by rw [← l2, l1]; rw [List.size_toArray] at h2; omega
    obtain ⟨fs, q1, q2, q3⟩ := Srt.firsts_of (h := s.heap) (vs := ks) fun v hm => ⟨_, _, hpair v hm⟩
    refine wpAny_bind (PySem.W.kat_kind (T := .type "int") q1 (by omega) (fun f hm => ?_) (by rfl) ?_)
    · obtain ⟨x, t, rfl⟩ := q3 f hm
      exact PySem.W.Looks.now
    · have e : (Value.type "int" != Value.type "tuple") = true := by first | decide +kernel | rfl | decide
      rw [e]
      refine wpAny_bind (wpAny_mono (SrtO.wpS_sortO (st0 := SortSt.mk' (tuples' true) (ks.toArray.zip vs.toArray) #[] 7 none) (lt := SrtO.lt2 fun v u => SrtO.lexB (kf s.heap v) (kf s.heap u)) (P := fun p => p.1 ∈ ks)
        (Q := fun _ st' => SrtO.Srtd (SrtO.lt2 fun v u => SrtO.lexB (kf s.heap v) (kf s.heap u)) (arrOf st').toList ∧ (arrOf st').toList.Perm (ks.zip vs) ∧ failedOf st' = none) (SrtO.swo2 (SrtO.swo_lex (kf s.heap))) (SrtO.pair_cmp hpair) rfl (fun p hm => ?_) rfl rfl fun st' a1 a2 a3 => ⟨a1, ?_, a3⟩) ?_ fun _ _ e => e)
      · have hm' : p ∈ (ks.toArray.zip vs.toArray).toList := hm
        rw [ez] at hm'
        exact (List.of_mem_zip (a := p.1) (b := p.2) hm').1
      · have hp := a2.perm
        rw [show (arrOf (SortSt.mk' (tuples' true) (ks.toArray.zip vs.toArray) #[] 7 none)).toList = ks.zip vs from ez] at hp
        exact hp
      · rintro ⟨⟨⟩, st'⟩ s' ⟨rfl, hp1, hp2, hf⟩
        try dsimp only
        exact fin st' hp1 hp2 hf
end
end
end G

/-! ## GSort2 -/
set_option Elab.async false
set_option linter.all false
set_option maxRecDepth 100000
set_option maxHeartbeats 4000000
namespace G
open PySem PySem.W PySem.Calls PyProof.Rows PySem.Spec L2
section
variable {X : Cx} {pins : List (Addr × Obj)} {σ : L2.St} {H : Hp} {k : Nat} {f : Addr} {fd : FuncData} {ps : List Str} {key : V → Int × Int} {Good : Hp → V → Prop}
theorem key_rest (F : FnOk X.prog X.w X.K X.mg X.base CX0 k f fd ps (SpKey Good key)) (hb : Binds X.K fd ps []) {A : Around} (hA : Room k A) (hf : A.frames = X.A.frames) {H0 : Hp} {kS a : Addr} {e1 : Nat} {xs : List V} {vs : List Value} {s : Shared} {E : Value → Shared → Prop} {P : PySem.Fin → Shared → Prop}
    (mg : ∀ x H H', Ex H H' → Good H x → Good H' x) (h : KSt X pins σ H0 key kS a e1 [] [] s) (rv : Vals xs vs) (hz : xs.length ≤ sizeLine) (hg : ∀ x ∈ xs, Good H0 x)
    (hP : ∀ ys H' s', ys.Perm xs → KOrd key ys → Inv X pins σ H' s' → Ex H0 H' → H' a = some (.lst ys) → P (.done (.ret .none)) s') : wpAny (model X.prog X.w) A (ksk_rest a (.ref f) false vs.toArray e1 (.ref kS)) P E s := by
  unfold ksk_rest
  refine wpAny_bind (wpAny_rule ?_)
  rw [List.forIn_toArray]
  refine wpAny_bind (wpAny_mono (key_fold F hb hA hf mg (fun v s' kv hx => ?_) vs xs [] [] s (by simpa using hz) rv hg h) (fun _ s' hd => ?_) fun _ _ x => x)
  · refine wpAny_bind (wpAny_attempt (wpAny_mono hx (fun u s'' hk => ?_) fun _ _ hF => hF.elim))
    obtain ⟨ks, c, ek, hlt, hkv⟩ := hk
    try dsimp only
    refine wpAny_bind (listUpdate_at ek rfl ?_ (Nat.le_of_lt hlt) (by rw [Array.size_push]; omega))
    exact wpAny_pure ⟨rfl, u, hkv⟩
  · obtain ⟨ks, hd⟩ := hd
    rw [List.nil_append] at hd
    obtain ⟨H', c, I, ex, fk, fa, ek, ea, hne, pp⟩ := id hd
    try dsimp only
    refine wpAny_bind (listItems_at ek rfl ?_)
    exact key_end hd rv hz hP
theorem key_sort (F : FnOk X.prog X.w X.K X.mg X.base CX0 k f fd ps (SpKey Good key)) (hb : Binds X.K fd ps []) {A : Around} (hA : Room k A) (hf : A.frames = X.A.frames) {a : Addr} {n : Nat} {xs : List V} {vs : List Value} {s : Shared} {E : Value → Shared → Prop} {P : PySem.Fin → Shared → Prop}
    (mg : ∀ x H H', Ex H H' → Good H x → Good H' x) (I : Inv X pins σ H s) (ho : s.heap.get? a = some (seqObj "list" vs.toArray n)) (fa : FpOk X pins H a) (rv : Vals xs vs) (hz : xs.length ≤ sizeLine) (hg : ∀ x ∈ xs, Good H x)
    (hP : ∀ ys H' s', ys.Perm xs → KOrd key ys → Inv X pins σ H' s' → Ex H H' → H' a = some (.lst ys) → P (.done (.ret .none)) s') : wpAny (model X.prog X.w) A (ksk_tree a (.ref f) false) P E s := by
  have hzv : vs.toArray.size ≤ sizeLine := by rw [List.size_toArray, ← rv.length]; exact hz
  obtain ⟨e1, ho1⟩ : ∃ e1, (s.heap.update a (Obj.mapSeq fun _ => (#[] : Array Value))).get? a = some (seqObj "list" #[] e1) := ⟨_, get?_update_seq ho fun _ => #[]⟩
  have I1 : Inv X pins σ H { s with heap := s.heap.update a (Obj.mapSeq fun _ => (#[] : Array Value)) } := by
    obtain ⟨g0, g1, g2, g3, g4, g5⟩ := fa
    exact I.turned (t' := s.toks) (fun b o hb e => (Heap.get?_update_ne _ _ _ _ hb).trans e) g0 g1 g3 g4 g5
  unfold ksk_tree
  refine wpAny_bind (listItems_at ho rfl ?_)
  refine wpAny_bind (listUpdate_at ho rfl ?_ hzv (Nat.zero_le _))
  refine wpAny_bind (seqEpoch_at ho1 rfl ?_)
  refine wpAny_bind (wpAny_newTuple ?_ (by show vs.length ≤ _; rw [← rv.length]; exact hz))
  refine wpAny_bind (wpAny_newList ?_ (Nat.zero_le _))
  refine wpAny_holding ?_
  have I2 : Inv X pins σ H { s with heap := (s.heap.update a (Obj.mapSeq fun _ => (#[] : Array Value))).push (seqObj "tuple" vs.toArray 0) } := I1.kept (t' := s.toks) fun b o e => Heap.get?_push_of_some _ e
  have I3 : Inv X pins σ H { s with heap := ((s.heap.update a (Obj.mapSeq fun _ => (#[] : Array Value))).push (seqObj "tuple" vs.toArray 0)).push (seqObj "list" #[] 0) } := I2.kept (t' := s.toks) fun b o e => Heap.get?_push_of_some _ e
  have hkf : H ((s.heap.update a (Obj.mapSeq fun _ => (#[] : Array Value))).push (seqObj "tuple" vs.toArray 0)).objs.size = none := I2.hok.fresh (Nat.le_refl _)
  have hne : ((s.heap.update a (Obj.mapSeq fun _ => (#[] : Array Value))).push (seqObj "tuple" vs.toArray 0)).objs.size ≠ a := by
    rw [size_push', Heap.size_update]
    exact Nat.ne_of_gt (Nat.lt_succ_of_lt (Heap.lt_size ho))
  refine key_rest F hb hA hf mg ⟨H, 0, I3, Ex.refl H, I2.fpOk (Nat.le_refl _) hkf, fa, Heap.get?_push_size _ rfl, Heap.get?_push_of_some _ (Heap.get?_push_of_some _ ho1), hne, .nil⟩ rv hz hg hP
/-- sorted(xs, key = f), f's answers pairs of ints -/
def rSortK (K : PySem.W.Frag) (f : Addr) (Good : Hp → V → Prop) (key : V → Int × Int) : List V → List V → Hp → VK → Prop := fun vs zs H Q => ∃ (a : Addr) (xs : List V), vs = [.ref a] ∧ zs = [.ref f] ∧ SqL K H a xs ∧ (∀ x ∈ xs, Good H x) ∧
  ∀ (ys : List V) (H' : Hp) (p : Addr), ys.Perm xs → KOrd key ys → Ex H H' → H p = none → H' p = some (.lst ys) → Q (.ref p) H'
theorem cr_sortK (F : FnOk X.prog X.w X.K X.mg X.base CX0 k f fd ps (SpKey Good key)) (hb : Binds X.K fd ps []) (hr : Room (k + 2) X.A) (mg : ∀ x H H', Ex H H' → Good H x → Good H' x) : CallRK X (.builtin "sorted") [Str.ofString "key"] (rSortK X.K f Good key) := by
  intro pins s σ H vs zs us ws Q I r rz h
  obtain ⟨l, xs, rfl, rfl, hs, hg, q⟩ := h
  obtain rfl := Vals.ref1 r
  obtain ⟨w1, rfl, e1⟩ := vals1 rz
  obtain rfl : w1 = Value.ref f := e1
  obtain ⟨its, rv, hl, hz⟩ := I.list hs
  refine call_function_entry_kw kind_sorted plain_sorted entry_sorted (PyProof.Rows.ksk_s1 _ _) ?_
  unfold Builtin.«sorted»
  have hzi : its.length ≤ sizeLine := by rw [← rv.length]; exact hz
  refine wpAny_bind (m := checkCount "sorted" 1 1 _) (wpAny_pure ?_)
  refine wpAny_bind (collect_list hl.isList ?_ hzi)
  refine wpAny_bind (wpAny_newList ?_ hzi)
  have hsz : ((s.heap.push (seqObj "list" #[] 0)).update s.heap.objs.size (Obj.mapSeq (· ++ its.toArray))).objs.size = s.heap.objs.size + 1 := by
    rw [Heap.size_update, size_push']
  have hoL : (((s.heap.push (seqObj "list" #[] 0)).update s.heap.objs.size (Obj.mapSeq (· ++ its.toArray))).push (seqObj "list" its.toArray 0)).get? (s.heap.objs.size + 1) = some (seqObj "list" its.toArray 0) := by
    rw [← hsz]; exact Heap.get?_push_size _ rfl
  have keep : ∀ b o, s.heap.get? b = some o → (((s.heap.push (seqObj "list" #[] 0)).update s.heap.objs.size (Obj.mapSeq (· ++ its.toArray))).push (seqObj "list" its.toArray 0)).get? b = some o := fun b o q => by
    have hlt : b < s.heap.objs.size := Heap.lt_size q
    refine Heap.get?_push_of_some _ ?_
    rw [Heap.get?_update_ne _ _ _ _ (Nat.ne_of_lt hlt)]
    exact Heap.get?_push_of_some _ q
  show wpAny _ _ _ _ _ { s with heap := ((s.heap.push (seqObj "list" #[] 0)).update s.heap.objs.size (Obj.mapSeq (· ++ its.toArray))).push (seqObj "list" its.toArray 0) }
  rw [hsz]
  have I1 : Inv X pins σ H { s with heap := ((s.heap.push (seqObj "list" #[] 0)).update s.heap.objs.size (Obj.mapSeq (· ++ its.toArray))).push (seqObj "list" its.toArray 0) } := I.kept (t' := s.toks) keep
  have hpn : H (s.heap.objs.size + 1) = none := I.hok.fresh (Nat.le_succ _)
  refine wpAny_bind (wpAny_holding (wpAny_call_entry_kw PyProof.Rows.slot_list_sort ⟨_, hoL, rfl⟩ PyProof.Rows.entry_list_sort ?_ (PyProof.Rows.ksk_l1 _ _)))
  show wpAny (model X.prog X.w) X.A.in1.in1 (Builtin.«list.sort» ⟨[.ref (s.heap.objs.size + 1)], [(Str.ofString "key", .ref f)]⟩) _ _ _
  rw [PyProof.Rows.ksk_t1]
  have hr1 : Room (k + 1) X.A.in1 := Room.in1 hr
  have hr2 : Room k X.A.in1.in1 := Room.in1 hr1
  refine key_sort F hb hr2 rfl mg I1 hoL (I.fpOk (Nat.le_succ _) hpn) rv hz hg fun ys H' s' hp ho I' e' a' => ⟨_, rfl, ?_⟩
  exact wpAny_pure ⟨_, rfl, .ref _, H', I', rfl, q ys H' _ hp ho e' hpn a'⟩
end
end G

/-! ## GSet -/
set_option Elab.async false
set_option linter.all false
set_option maxRecDepth 100000
set_option maxHeartbeats 4000000
namespace L2
open PySem PySem.Spec PyProof.Rows
section
variable {P : Program} {w : World} {A : Around} {E : Value → Shared → Prop} {s : Shared}
theorem call_set_lstI {l : Addr} {items : Array Value} (ns : List Int) {Q : Value → Shared → Prop} (hh : A.handled = none) (hl : s.heap.IsList l items) (hit : IntsAre items.toList ns) (hb : ns.length + 1 < scanBound)
    (h : ∀ (h' : Heap) (tk c : Nat), SetR w h' s.heap.objs.size (fun j => decide (j ∈ ns)) c → c ≤ ns.length → (∀ b o, s.heap.get? b = some o → h'.get? b = some o) → Q (.ref s.heap.objs.size) { s with heap := h', toks := tk }) :
    wpAny (model P w) A (call (.type "set") [.ref l]) Q E s := by
  have hisz : items.size = ns.length := by
    have q := IntsAre.length hit
    rw [Array.length_toList] at q
    exact q
  obtain ⟨c, tl, hmro⟩ := F.called_set.mro
  have hmade := F.called_set.made
  have hsub := F.called_set.sub
  refine wpAny_call (codeAny_of_tree ?_)
  show wpAny _ _ (callAny (.type "set") _) _ _ _
  refine wpAny_pure ⟨Code.quiet_builtin _ (by decide +kernel), codeAny_builtin F.entry_type_call ?_⟩
  rw [Around.under_plain (weight_type_call_type "set" [.ref l] []) rfl]
  have h1 := F.called_set.notType
  have h2 := F.called_set.canCreate
  have hct := F.typeCall_set_1 (.ref l)
  repeat (any_goals (first | assumption | wp_step))

  refine codeAny_mono (code_set_led1 (.ref l) (E := E) (Q₁ := fun obj s₁ => obj = .ref s.heap.objs.size ∧ s₁ = { s with heap := s.heap.push { cls := .type "set", dict := none, data := .set #[] 0 (.fresh 0 0 (!w.params.followText "set-order")) } }) ⟨rfl, rfl⟩) fun r s₁ hr => ?_
  cases r with
  | error e => exact hr
  | ok fl =>
    cases fl with
    | ret obj =>
      obtain ⟨rfl, rfl⟩ := hr
      have hS : (s.heap.push { cls := .type "set", dict := none, data := .set #[] 0 (.fresh 0 0 (!w.params.followText "set-order")) }).get? s.heap.objs.size = some { cls := .type "set", dict := none, data := .set #[] 0 (.fresh 0 0 (!w.params.followText "set-order")) } := Heap.get?_push_size _ rfl
      have hT : Shared.TypeIs { s with heap := s.heap.push { cls := .type "set", dict := none, data := .set #[] 0 (.fresh 0 0 (!w.params.followText "set-order")) } } (.ref s.heap.objs.size) "set" := ⟨_, hS, rfl⟩
      have hli := F.called_set.init.lookup
      have hbi := F.called_set.init.bind (.ref s.heap.objs.size)
      repeat (any_goals (first | assumption | wp_step))

      refine codeAny_mono (codeAny_call_builtin (R := wants (fun r s₂ => r = .none ∧ ∃ h' tk c, s₂ = { s with heap := h', toks := tk } ∧ SetR w h' s.heap.objs.size (fun j => decide (j ∈ ns)) c ∧ c ≤ ns.length ∧
          (∀ b o, s.heap.get? b = some o → h'.get? b = some o)) E) F.called_set.init.plain F.entry_set_init (check_set_init_1 hT ?_)) fun r₂ s₂ hr₂ => ?_
      · obtain ⟨ol, hol, hcl, nl, hdl⟩ := hl
        obtain ⟨ocls, odict, odata, oslots⟩ := ol
        simp only at hcl hdl
        subst hcl; subst hdl
        have hol' : (s.heap.push { cls := .type "set", dict := none, data := .set #[] 0 (.fresh 0 0 (!w.params.followText "set-order")) }).get? l = some { cls := .type "list", dict := odict, data := .seq items nl, slots := oslots } := Heap.get?_push_of_some _ hol
        have hsls := F.sub_list_set
        have hslf := F.sub_list_frozenset
        have hne : (Value.type "list" == Value.type "dict") = false := by decide
        have hl1 : (s.heap.push { cls := .type "set", dict := none, data := .set #[] 0 (.fresh 0 0 (!w.params.followText "set-order")) }).IsList l items := ⟨_, hol', rfl, nl, rfl⟩
        unfold Builtin.«set.__init__» noKeywords Builtin.Frozenset.updateFrom
        generalize hPI : pyIter = PI
        wp_walk
        subst hPI

        refine wpAny_pyIter_list hl1 ?_
        refine wpAny_bind (wpAny_runValue ?_)
        have hlS : l < s.heap.objs.size := Heap.lt_size hol
        have hh3 : A.in1.in1.in1.handled = none := by simp [hh]
        have hz1 : (s.heap.push { cls := .type "set", dict := none, data := .set #[] 0 (.fresh 0 0 (!w.params.followText "set-order")) }).objs.size = s.heap.objs.size + 1 := Heap.size_push ..
        have hneI : l ≠ (s.heap.push { cls := .type "set", dict := none, data := .set #[] 0 (.fresh 0 0 (!w.params.followText "set-order")) }).objs.size := by
          rw [Heap.size_push]; exact Nat.ne_of_lt (Nat.lt_succ_of_lt hlS)
        have hSf : s.heap.objs.size ∉ [(s.heap.push { cls := .type "set", dict := none, data := .set #[] 0 (.fresh 0 0 (!w.params.followText "set-order")) }).objs.size, l] := by
          rw [Heap.size_push]; simp only [List.mem_cons, List.mem_singleton, List.not_mem_nil, or_false, not_or]
          exact ⟨Nat.ne_of_lt (Nat.lt_succ_self _), Nat.ne_of_gt hlS⟩
        have hval : ∀ (i : Nat) (v : Value), items[i]? = some v → ∃ k t, ns[i]? = some k ∧ v = .int k t := fun i v hv => by
          have hi : i < ns.length := by rw [← hisz]; exact (Array.getElem?_eq_some_iff.mp hv).1
          obtain ⟨t, e⟩ := PyProof.Rows.IntsAre.int_at hit i v (by rw [Array.getElem?_toList]; exact hv)
          refine ⟨ns[i], t, List.getElem?_eq_getElem hi, ?_⟩
          rw [e, List.getD_eq_getElem?_getD, List.getElem?_eq_getElem hi] <;> rfl
        refine set_update_ints ((Walks.list hh3 _ l hneI items).toS) s.heap.objs.size
          hSf ns hisz hb hval (items.size - 0) 0 _ (by omega) (Nat.zero_le _)
          ⟨⟨_, Heap.get?_push_size _ rfl, rfl, rfl⟩, (hl1.push _)⟩ ?hS0 ?hR
        case hS0 =>
          have hget : ((s.heap.push { cls := .type "set", dict := none, data := .set #[] 0 (.fresh 0 0 (!w.params.followText "set-order")) }).push { cls := .type "list_iterator", data := .fields #[.ref l, .int 0 0] }).get? s.heap.objs.size
              = some { cls := .type "set", dict := none, data := .set #[] 0 (.fresh 0 0 (!w.params.followText "set-order")) } := Heap.get?_push_of_some _ hS
          exact ⟨0, Nat.le_refl 0, setR_new_at hget⟩
        case hR =>
          intro s' c' hm hc' hS'
          obtain ⟨h', g2, d', tk', os'⟩ := s'
          have eg : g2 = s.gens := hm.gens
          have ed : d' = s.drawn := hm.drawn
          have eo : os' = s.os := hm.os
          subst eg; subst ed; subst eo
          show wpAny _ _ _ _ _ _
          refine wpAny_pure ?_
          show wpAny _ _ (ret Value.none) _ _ _
          rw [hisz] at hc'
          refine wpAny_pure ⟨rfl, h', tk', c', rfl, hS', hc', fun b o e => ?_⟩
          have hb0 : b < s.heap.objs.size := Heap.lt_size e
          have hb1 : b ≠ s.heap.objs.size := Nat.ne_of_lt hb0
          have hb2 : b ≠ (s.heap.push { cls := .type "set", dict := none, data := .set #[] 0 (.fresh 0 0 (!w.params.followText "set-order")) }).objs.size := by
            rw [Heap.size_push]; exact Nat.ne_of_lt (Nat.lt_succ_of_lt hb0)
          exact hm.heap b o (by simp only [List.mem_cons, List.mem_singleton, List.not_mem_nil, or_false, not_or]; exact ⟨hb1, hb2⟩) (Heap.get?_push_of_some _ (Heap.get?_push_of_some _ e))

      · cases r₂ with
        | error e => exact hr₂
        | ok fl₂ =>
          cases fl₂ with
          | ret r =>
            obtain ⟨rfl, h', tk, c', rfl, hS', hc', hk'⟩ := hr₂
            repeat (any_goals (first | assumption | wp_step))
            exact h _ _ _ hS' hc' hk'
          | _ => exact hr₂.elim
    | _ => exact hr.elim

variable {a : Addr}
theorem sorted_setAny {S : Int → Bool} {n : Nat} {Q : Value → Shared → Prop} (R : SetR w s.heap a S n) (hh : A.handled = none)
    (hQ : ∀ s' p (out : Array Value) (c : Nat) (ns : List Int), (∀ b o, s.heap.get? b = some o → s'.heap.get? b = some o) → s'.gens = s.gens → s'.os = s.os → s.heap.objs.size ≤ p →
      s'.heap.get? p = some (seqObj "list" out c) → IntsAre out.toList ns → ns.Pairwise (· < ·) → (∀ k, k ∈ ns ↔ S k = true) → ns.length = n → Q (.ref p) s') :
    wpAny (model P w) A (call (.builtin "sorted") [.ref a]) Q E s := by
  obtain ⟨o, es, ep, t, ho, hex, hd, g, nd, hm, hb, hf, hn, hr, hl⟩ := R
  refine Calls.call_function_entry kind_sorted plain_sorted entry_sorted (args_sorted1 _) ?_
  unfold Builtin.«sorted»
  refine wpAny_bind (m := checkCount "sorted" 1 1 _) (wpAny_pure ?_)
  refine wpAny_bind (collect_set (A := A.in1) hh ⟨o, ho, hex.1, hd⟩ hf hb hr hl fun s1 vs k1 hz g1 o1 pm => ?_)
  have hvl : vs.length = n := by rw [pm.length_eq, List.length_map, Array.length_toList]; exact hn
  have hnb : n < scanBound := by rw [← hn]; exact hb
  have hI : IntsAre vs (vs.map Builtin.Re.reRawOf) := ints_of vs fun v hv => by
    obtain ⟨e, he, q⟩ := List.mem_map.mp (pm.mem_iff.mp hv)
    obtain ⟨k, tk, h1, _⟩ := g e he
    exact ⟨k, tk, by rw [← q]; exact h1⟩
  have pk : (vs.map Builtin.Re.reRawOf).Perm (es.toList.map keyOf) := by
    have q := pm.map Builtin.Re.reRawOf
    rw [List.map_map] at q
    exact q
  refine wpAny_bind (wpAny_newList ?_ (by rw [hvl]; exact Nat.le_of_lt (Nat.lt_of_lt_of_le hnb (by decide))))
  have hoL : (s1.heap.push (seqObj "list" vs.toArray 0)).get? s1.heap.objs.size = some (seqObj "list" vs.toArray 0) := Heap.get?_push_size _ rfl
  refine wpAny_bind (wpAny_holding (wpAny_call_entry slot_list_sort ⟨_, hoL, rfl⟩ entry_list_sort (SrtO.list_sort_ord SrtO.swo_int hoL (by rw [hvl]; exact Nat.le_of_lt (Nat.lt_of_lt_of_le hnb (by decide))) (fun h2 => SrtO.ints_sortable hI h2) fun out h1 h2 => ⟨_, rfl, ?_⟩) (args_list_sort _)))
  obtain ⟨a1, a2, a3⟩ := SrtO.ints_out hI h1 h2
  obtain ⟨c, hc⟩ := sortedHeap_at (vs := vs) (out := out.toArray) hoL
  have pn : (out.map SrtO.iv).Perm (es.toList.map keyOf) := a2.trans pk
  refine wpAny_pure ⟨_, rfl, hQ _ s1.heap.objs.size out.toArray c (out.map SrtO.iv) (fun b u e => ?_) g1 o1 hz hc a1 (lt_of_le_nodup (out.map SrtO.iv) a3 (pn.nodup_iff.mpr nd)) (fun k => by rw [pn.mem_iff, ← hm k]) ?_⟩
  · have q := k1 b u e
    have hlt := Heap.lt_size q
    show (sortedHeap (s1.heap.push (seqObj "list" vs.toArray 0)) s1.heap.objs.size vs out.toArray).get? b = some u
    rw [sortedHeap_old (Nat.ne_of_lt hlt) (by rw [size_push']; exact Nat.lt_succ_of_lt hlt)]
    exact Heap.get?_push_of_some _ q
  · rw [pn.length_eq, List.length_map, Array.length_toList]; exact hn
end
end L2
namespace G
open PySem PySem.Spec PyProof.Rows L2
section
variable {X : Cx}
def rSetI (K : PySem.W.Frag) (w : World) : List V → Hp → VK → Prop := fun vs H Q => ∃ (a : Addr) (ns : List Int), vs = [.ref a] ∧ SqL K H a (ns.map V.int) ∧ ns.length + 1 < scanBound ∧
  ∀ (c : Nat) (p : Addr), H p = none → Q (.ref p) (upd H p (SetO w p (fun j => decide (j ∈ ns)) c))
theorem cr_setI (hc : X.calm = true) : CallR X (.type "set") (rSetI X.K X.w) := by
  intro pins s σ H vs us Q I r h
  obtain ⟨a, ns, rfl, hs, hz, q⟩ := h
  obtain ⟨its, rv, hl, _⟩ := I.list hs
  rw [Vals.ref1 r]
  refine call_set_lstI ns (I.ok.hd hc) hl.isList (by simpa using rv.ints) hz fun h' tk c R _ hk => ?_
  exact ⟨.ref _, upd H s.heap.objs.size (SetO X.w s.heap.objs.size (fun j => decide (j ∈ ns)) c), I.laid (t' := tk) hk (Nat.le_refl _) (setO_new R), rfl, q c _ (I.hok.fresh (Nat.le_refl _))⟩
def rSortedSetA (w : World) : List V → Hp → VK → Prop := fun vs H Q => ∃ (a : Addr) (S : Int → Bool) (n : Nat), vs = [V.ref a] ∧ H a = some (SetO w a S n) ∧
  ∀ (ns : List Int) (p : Addr), ns.Pairwise (· < ·) → (∀ k : Int, k ∈ ns ↔ S k = true) → H p = none → Q (.ref p) (upd H p (.lst (ns.map V.int)))
theorem cr_sortedSetA (hc : X.calm = true) : CallR X (.builtin "sorted") (rSortedSetA X.w) := by
  intro pins s σ H vs us Q I r h
  obtain ⟨a, S, n, rfl, ha, q⟩ := h
  have R := setO_get I ha
  rw [Vals.ref1 r]
  refine sorted_setAny R (I.ok.hd hc) fun s' p out c ns k g o hp hg hi hs hm hl => ?_
  have hnb : n < scanBound := by
    obtain ⟨_, _, _, _, _, _, _, _, _, _, hb, _, hn, _⟩ := R
    rw [← hn]; exact hb
  have hlen : (ns.map V.int).length ≤ sizeLine := by rw [List.length_map, hl]; exact Nat.le_of_lt (Nat.lt_of_lt_of_le hnb (by decide))
  have hn : H p = none := I.hok.fresh hp
  obtain ⟨h', g', d', t', o'⟩ := s'
  have eo : o' = s.os := o
  have eg : g' = s.gens := g
  subst eo eg
  have J : Inv X pins σ (upd H p (.lst (ns.map V.int))) { s with heap := h', gens := s.gens, drawn := d', toks := t' } :=
    I.call (ch := []) (Un.laid k hp hn) (I.hok.laid k hp ⟨hlen, out.toList, c, vals_of_ints hi, hg⟩) I.bare (fun _ z => nomatch z)
  exact ⟨.ref p, _, J, rfl, q ns p hs hm hn⟩
end
end G

/-! ## GArea -/
set_option Elab.async false
set_option linter.all false
set_option maxRecDepth 100000
namespace G
open PySem PySem.Spec PyProof.Rows L2
/-! ### blocks, areas: what they are -/
structure Blk where
  t : Int
  l : Int
  b : Option Int
  r : Option Int
  deriving DecidableEq
def blkF (x : Blk) : List (Str × V) := putF "right" (optV x.r) (putF "bottom" (optV x.b) (putF "left" (.int x.l) (putF "top" (.int x.t) [])))
theorem blkF_top (x : Blk) : (blkF x).lookup ("top" : Str) = some (.int x.t) := by
  unfold blkF
  rw [lookup_putF, if_neg (by decide +kernel), lookup_putF, if_neg (by decide +kernel), lookup_putF, if_neg (by decide +kernel), lookup_putF, if_pos rfl]
theorem blkF_left (x : Blk) : (blkF x).lookup ("left" : Str) = some (.int x.l) := by
  unfold blkF
  rw [lookup_putF, if_neg (by decide +kernel), lookup_putF, if_neg (by decide +kernel), lookup_putF, if_pos rfl]
theorem blkF_bottom (x : Blk) : (blkF x).lookup ("bottom" : Str) = some (optV x.b) := by
  unfold blkF
  rw [lookup_putF, if_neg (by decide +kernel), lookup_putF, if_pos rfl]
theorem blkF_right (x : Blk) : (blkF x).lookup ("right" : Str) = some (optV x.r) := by
  unfold blkF
  rw [lookup_putF, if_pos rfl]
theorem blkF_no (x : Blk) {m : Str} (h1 : ¬ m = "right") (h2 : ¬ m = "bottom") (h3 : ¬ m = "left") (h4 : ¬ m = "top") : (blkF x).lookup m = none := by
  unfold blkF
  rw [lookup_putF, if_neg h1, lookup_putF, if_neg h2, lookup_putF, if_neg h3, lookup_putF, if_neg h4]
  rfl
def IsBlk (K : PySem.W.Frag) : Rp Blk := fun G v x => ∃ p dx, v = .ref p ∧ G p = some (.ins (He.ga K "Block") dx (blkF x))
theorem IsBlk.mono {K : PySem.W.Frag} : Mono (IsBlk K) := fun _ _ _ _ e ⟨p, dx, h1, h2⟩ => ⟨p, dx, h1, e _ _ h2⟩
def arF (q : Addr) : List (Str × V) := putF "form" (.ref q) []
theorem arF_form (q : Addr) : (arF q).lookup ("form" : Str) = some (.ref q) := by unfold arF; rw [lookup_putF, if_pos rfl]
theorem arF_no (q : Addr) {m : Str} (h : ¬ m = "form") : (arF q).lookup m = none := by unfold arF; rw [lookup_putF, if_neg h]; rfl
/-- an area: the list of its form's blocks -/
def IsAr (K : PySem.W.Frag) : Rp (List Blk) := fun G v xs => ∃ p dx q, v = .ref p ∧ G p = some (.ins (He.ga K "Area") dx (arF q)) ∧ IsL (IsBlk K) G (.ref q) xs
theorem IsAr.mono {K : PySem.W.Frag} : Mono (IsAr K) := fun G G' _ _ e ⟨p, dx, q, h1, h2, h3⟩ => ⟨p, dx, q, h1, e _ _ h2, IsL.mono IsBlk.mono G G' _ _ e h3⟩
abbrev IsRn : Rp Rn := IsT2 IsI IsO
theorem IsRn.mono : Mono IsRn := IsT2.mono IsI.mono IsO.mono
/-! ### mirrors -/
def isAt (a : Int) (l : Option Int) (n : Int) : Bool := decide (a ≤ n) && (match l with | none => true | some l => decide (n ≤ l))
/-- sorted, none twice -/
def ins (x : Int) : List Int → List Int
  | [] => [x]
  | y :: r => if x < y then x :: y :: r else if x = y then y :: r else y :: ins x r
def sd (xs : List Int) : List Int := xs.foldr ins []
def strOf : List Int → List Rn
  | [] => []
  | [a] => [(a, none)]
  | a :: b :: r => (a, some (b - 1)) :: strOf (b :: r)
def stretches (xs : List Int) : List Rn := strOf (sd xs)
def cutsOf (es : List Rn) : List Int := es.map (·.1) ++ es.filterMap fun e => e.2.map (· + 1)
def withRun (rs : List Rn) (f : Int) (l : Option Int) : List Rn := match rs.getLast? with
  | some (a, some b) => if b = f - 1 then rs.dropLast ++ [(a, l)] else rs ++ [(f, l)]
  | _ => rs ++ [(f, l)]
def runStep (one other : List Rn) (k : Bool → Bool → Bool) (acc : List Rn) (s : Rn) : List Rn :=
  if k (one.any fun r => isAt r.1 r.2 s.1) (other.any fun r => isAt r.1 r.2 s.1) = true then withRun acc s.1 s.2 else acc
def runsBy (one other : List Rn) (k : Bool → Bool → Bool) : List Rn := (stretches (cutsOf (one ++ other))).foldl (runStep one other k) []
def columnsAt (bs : List Blk) (row : Int) : List Rn := (bs.filter fun b => isAt b.t b.b row).map fun b => (b.l, b.r)
abbrev Band := Int × Option Int × List Rn
def bandStep (one other : List Blk) (k : Bool → Bool → Bool) (acc : List Band) (s : Rn) : List Band :=
  if runsBy (columnsAt one s.1) (columnsAt other s.1) k = [] then acc else acc ++ [(s.1, s.2, runsBy (columnsAt one s.1) (columnsAt other s.1) k)]
def bandsBy (one other : List Blk) (k : Bool → Bool → Bool) : List Band := (stretches (cutsOf ((one ++ other).map fun b => (b.t, b.b)))).foldl (bandStep one other k) []
/-! ### sorted lists of ints -/
theorem ins_mem (x y : Int) : ∀ l : List Int, y ∈ ins x l ↔ y = x ∨ y ∈ l
  | [] => by simp [ins]
  | z :: r => by
    unfold ins
    split
    · simp
    · split
      · rename_i h; subst h; simp
      · have := ins_mem x y r
        simp only [List.mem_cons, this]
        constructor
        · rintro (h | h | h)
          · exact .inr (.inl h)
          · exact .inl h
          · exact .inr (.inr h)
        · rintro (h | h | h)
          · exact .inr (.inl h)
          · exact .inl h
          · exact .inr (.inr h)
theorem ins_lt (x : Int) : ∀ l : List Int, l.Pairwise (· < ·) → (ins x l).Pairwise (· < ·)
  | [], _ => by simp [ins]
  | z :: r, h => by
    have h' := List.pairwise_cons.mp h
    unfold ins
    split
    · rename_i c
      refine List.pairwise_cons.mpr ⟨fun y hy => ?_, h⟩
      rcases List.mem_cons.mp hy with e | e
      · rw [e]; exact c
      · exact Int.lt_trans c (h'.1 y e)
    · split
      · exact h
      · rename_i c1 c2
        refine List.pairwise_cons.mpr ⟨fun y hy => ?_, ins_lt x r h'.2⟩
        rcases (ins_mem x y r).mp hy with e | e
        · rw [e]; omega
        · exact h'.1 y e
theorem sd_lt : ∀ xs : List Int, (sd xs).Pairwise (· < ·)
  | [] => List.Pairwise.nil
  | x :: r => ins_lt x _ (sd_lt r)
theorem sd_mem (y : Int) : ∀ xs : List Int, y ∈ sd xs ↔ y ∈ xs
  | [] => by simp [sd]
  | x :: r => by
    show y ∈ ins x (sd r) ↔ _
    rw [ins_mem, sd_mem y r, List.mem_cons]
theorem sorted_unique : ∀ {a b : List Int}, a.Pairwise (· < ·) → b.Pairwise (· < ·) → (∀ x, x ∈ a ↔ x ∈ b) → a = b
  | [], [], _, _, _ => rfl
  | [], y :: b, _, _, h => absurd ((h y).mpr (List.mem_cons_self ..)) (by simp)
  | x :: a, [], _, _, h => absurd ((h x).mp (List.mem_cons_self ..)) (by simp)
  | x :: a, y :: b, ha, hb, h => by
    have ha' := List.pairwise_cons.mp ha
    have hb' := List.pairwise_cons.mp hb
    have e : x = y := by
      rcases List.mem_cons.mp ((h x).mp (List.mem_cons_self ..)) with e | e
      · exact e
      · rcases List.mem_cons.mp ((h y).mpr (List.mem_cons_self ..)) with f | f
        · exact f.symm
        · exact absurd (Int.lt_trans (hb'.1 x e) (ha'.1 y f)) (Int.lt_irrefl _)
    subst e
    rw [sorted_unique ha'.2 hb'.2 fun z => ⟨fun hz => ?_, fun hz => ?_⟩]
    · rcases List.mem_cons.mp ((h z).mp (List.mem_cons_of_mem _ hz)) with e | e
      · subst e; exact absurd (ha'.1 z hz) (Int.lt_irrefl _)
      · exact e
    · rcases List.mem_cons.mp ((h z).mpr (List.mem_cons_of_mem _ hz)) with e | e
      · subst e; exact absurd (hb'.1 z hz) (Int.lt_irrefl _)
      · exact e
theorem sd_eq {xs ns : List Int} (h : ns.Pairwise (· < ·)) (m : ∀ x, x ∈ ns ↔ x ∈ xs) : ns = sd xs := sorted_unique h (sd_lt xs) fun x => (m x).trans (sd_mem x xs).symm
theorem strOf_len : ∀ l : List Int, (strOf l).length = l.length
  | [] => rfl
  | [_] => rfl
  | a :: b :: r => by show (strOf (b :: r)).length + 1 = _; rw [strOf_len (b :: r)]; rfl
theorem strOf_at : ∀ (l : List Int) (i : Nat) (a : Int), l[i]? = some a → (strOf l)[i]? = some (a, (l[i + 1]?).map (· - 1))
  | [a], 0, _, h => by cases h; rfl
  | [a], i + 1, _, h => by simp at h
  | a :: b :: r, 0, _, h => by cases h; rfl
  | a :: b :: r, i + 1, x, h => by
    show (strOf (b :: r))[i]? = _
    exact strOf_at (b :: r) i x (by simpa using h)
end G

/-! ## GFor -/
set_option Elab.async false
set_option linter.all false
set_option maxRecDepth 100000
namespace G
open PySem PySem.Spec PyProof.Rows L2
/-! ### loops -/
def ForGo (J : It) (g : TG) (tb : TS) (D : Ends) (σ : L2.St) (H : Hp) : Prop := ∃ W : Nat → Nat → L2.St → Hp → Prop, (∃ m, W 0 m σ H) ∧ ∀ i m σ H, W i m σ H →
  (J.stop i H ∧ D.nx σ H) ∨ (J.go i H ∧ ∃ N : L2.St → Hp → Prop, (∀ σ' H', N σ' H' → ∃ m', m' < m ∧ W (i + 1) m' σ' H') ∧ ∀ x H', J.yld i H x H' → g x σ H' fun σ2 H2 => tb { D with nx := N, ct := N, bk := D.nx } σ2 H2)
section
variable {K : PySem.W.Frag} {σ : L2.St} {H G : Hp} {Q : VK} {D : Ends}
theorem x_for {wi : TI} {g : TG} {tb : TS} (h : wi σ H fun J H1 => ForGo J g tb D σ H1) : tFor wi g tb D σ H := h
theorem x_iEnum {ta : TA} {R : It → Hp → Prop} (h : ta σ H fun vs H1 => ∃ a xs, vs = [.ref a] ∧ SqL K H1 a xs ∧ R (Ite K a) H1) : iEnum K ta σ H R := h
theorem x_iList {tl : TE} {R : It → Hp → Prop} (h : tl σ H fun v H1 => ∃ a, v = .ref a ∧ (∃ xs, SqL K H1 a xs) ∧ R (Itl K a) H1) : iList K tl σ H R := h
theorem x_iTup {tl : TE} {R : It → Hp → Prop} (h : tl σ H fun v H1 => ∃ a, v = .ref a ∧ (∃ xs, SqT K H1 a xs) ∧ R (Itt K a) H1) : iTup K tl σ H R := h
theorem x_gtup {n : Nat} {t : TGs} {a : Addr} {xs : List V} {R : L2.St → Hp → Prop} (h : H a = some (.tup xs)) (hl : xs.length = n) (k : t xs σ H R) : gTup K n t (.ref a) σ H R := ⟨a, xs, rfl, sqt h, hl, k⟩
theorem x_gcons {g : TG} {u : TGs} {v : V} {r : List V} {R : L2.St → Hp → Prop} (k : g v σ H fun σ' H' => u r σ' H' R) : gCons g u (v :: r) σ H R := ⟨v, r, rfl, k⟩
theorem x_gnil {R : L2.St → Hp → Prop} (k : R σ H) : gNil [] σ H R := ⟨rfl, k⟩
end
/-- a for over a list that stays -/
theorem forG {α : Type} {K : PySem.W.Frag} {R : Rp α} (mR : Mono R) {G H : Hp} {v : V} {xs : List α} {gt : TG} {tb : TS} {D : Ends} {σ : L2.St} (hx : IsL R G v xs) (e : Ex G H) (Pv : Nat → L2.St → Hp → Hp → Prop) (h0 : Pv 0 σ G H)
    (hst : ∀ i σ' G' H', i ≤ xs.length → Pv i σ' G' H' → Ex G G' ∧ Ex G' H')
    (turn : ∀ i x w σ1 G1 H1, xs[i]? = some x → Pv i σ1 G1 H1 → R G1 w x → gt w σ1 H1 fun σ2 H2 => tb { D with nx := fun σ' H' => ∃ G', Pv (i + 1) σ' G' H', ct := fun σ' H' => ∃ G', Pv (i + 1) σ' G' H', bk := D.nx } σ2 H2)
    (done : ∀ σ' G' H', Pv xs.length σ' G' H' → D.nx σ' H') : ∃ a, v = .ref a ∧ (∃ ys, SqL K H a ys) ∧ ForGo (Itl K a) gt tb D σ H := by
  obtain ⟨p, ws, rfl, hp, hr⟩ := hx
  have hl : ws.length = xs.length := paired_len hr
  refine ⟨p, rfl, ⟨ws, sq (e _ _ hp)⟩, ?_⟩
  refine for_it (walk_list (K := K) (a := p) (xs := ws)) (fun i σ' H' => ∃ G', Pv i σ' G' H') ⟨G, h0⟩ (fun i σ' H' hi ⟨G', h⟩ => ?_) (fun i x σ' H1 H2 hi ⟨G', h⟩ ⟨e2, hx⟩ => ?_) (fun σ' H' ⟨G', h⟩ => ?_)
  · obtain ⟨e1, e2⟩ := hst i σ' G' H' (by omega) h
    exact sq (e2 _ _ (e1 _ _ hp))
  · subst e2
    obtain ⟨y, hy, ry⟩ := paired_get hr hx
    exact turn i y x σ' G' _ hy h (mR _ _ _ _ (hst i σ' G' _ (by omega) h).1 ry)
  · rw [hl] at h
    exact done σ' G' H' h
/-- the same over enumerate -/
theorem enumG {α : Type} {K : PySem.W.Frag} {R : Rp α} (mR : Mono R) {G H : Hp} {v : V} {xs : List α} {gt : TG} {tb : TS} {D : Ends} {σ : L2.St} (hx : IsL R G v xs) (e : Ex G H) (Pv : Nat → L2.St → Hp → Hp → Prop) (h0 : Pv 0 σ G H)
    (hst : ∀ i σ' G' H', i ≤ xs.length → Pv i σ' G' H' → Ex G G' ∧ Ex G' H')
    (turn : ∀ i x w σ1 G1 H1 T G2 H2, xs[i]? = some x → Pv i σ1 G1 H1 → R G1 w x → St G1 H1 G2 H2 → H2 T = some (.tup [.int (i : Nat), w]) → gt (.ref T) σ1 H2 fun σ2 H2 => tb { D with nx := fun σ' H' => ∃ G', Pv (i + 1) σ' G' H', ct := fun σ' H' => ∃ G', Pv (i + 1) σ' G' H', bk := D.nx } σ2 H2)
    (done : ∀ σ' G' H', Pv xs.length σ' G' H' → D.nx σ' H') : ∃ a ys, [v] = [V.ref a] ∧ SqL K H a ys ∧ ForGo (Ite K a) gt tb D σ H := by
  obtain ⟨p, ws, rfl, hp, hr⟩ := hx
  have hl : ws.length = xs.length := paired_len hr
  refine ⟨p, ws, rfl, sq (e _ _ hp), ?_⟩
  refine for_it (walk_enum (K := K) (a := p) (xs := ws)) (fun i σ' H' => ∃ G', Pv i σ' G' H') ⟨G, h0⟩ (fun i σ' H' hi ⟨G', h⟩ => ?_) (fun i x σ' H1 H2 hi ⟨G', h⟩ ⟨T, x1, x2, e1, hT, e2, e3, e4⟩ => ?_) (fun σ' H' ⟨G', h⟩ => ?_)
  · obtain ⟨e1, e2⟩ := hst i σ' G' H' (by omega) h
    exact sq (e2 _ _ (e1 _ _ hp))
  · subst e1 e2
    cases e3
    obtain ⟨y, hy, ry⟩ := paired_get hr e4
    obtain ⟨q1, q2⟩ := hst i σ' G' H1 (by omega) h
    obtain ⟨s, ht⟩ := alF (o := .tup [.int (i : Nat), x2]) hT q2
    exact turn i y x2 σ' G' H1 T _ _ hy h (mR _ _ _ _ q1 ry) s upd_same
  · rw [hl] at h
    exact done σ' G' H' h
/-! ### append, in a for's turn: a list that grows -/
theorem x_bm {K : PySem.W.Frag} {T : String} {r : V → List V → Hp → VK → Prop} {to : TE} {t : TA} {σ : L2.St} {H : Hp} {Q : VK} (h : to σ H fun x H1 => tyV K T x H1 ∧ t σ H1 fun xs H2 => r x xs H2 Q) : tBM K T r to t σ H Q := h
theorem x_tyL {K : PySem.W.Frag} {G H : Hp} {l : Addr} {xs : List V} (h : Mu G H l (.lst xs)) : tyV K "list" (.ref l) H := Or.inl ⟨rfl, _, sq h.1⟩
theorem x_app {G H : Hp} {l : Addr} {xs : List V} {y : V} {Q : VK} (h : Mu G H l (.lst xs)) (e : Ex G H) (z : xs.length < sizeLine) (k : ∀ H1, Stm [l] G H G H1 → Mu G H1 l (.lst (xs ++ [y])) → Q .non H1) : rAppend (.ref l) [y] H Q :=
  ⟨l, xs, y, rfl, rfl, h.1, z, by obtain ⟨s, m⟩ := chgF (o' := .lst (xs ++ [y])) h e; exact k _ s m⟩
theorem x_lenL {α : Type} {K : PySem.W.Frag} {R : Rp α} {G H : Hp} {v : V} {xs : List α} {Q : VK} (hx : IsL R G v xs) (e : Ex G H) (h : Q (.int (xs.length : Nat)) H) : ∃ p ys, [v] = [V.ref p] ∧ (SqL K H p ys ∨ SqT K H p ys) ∧ Q (.int ys.length) H := by
  obtain ⟨p, ws, rfl, hp, hr⟩ := hx
  exact ⟨p, ws, rfl, .inl (sq (e _ _ hp)), by rw [paired_len hr]; exact h⟩
theorem x_ixL {α : Type} {K : PySem.W.Frag} {R : Rp α} {G H : Hp} {v : V} {xs : List α} {j : Nat} {x : α} {i : Int} {Q : VK} (hx : IsL R G v xs) (e : Ex G H) (hj : xs[j]? = some x) (hi : i = (j : Nat)) (h : ∀ w, R G w x → Q w H) : rIxL K v (.int i) H Q := by
  obtain ⟨p, ws, rfl, hp, hr⟩ := hx
  obtain ⟨w, hw, rw'⟩ := paired_get' hr hj
  subst hi
  exact ⟨p, ws, _, w, rfl, rfl, sq (e _ _ hp), atI_nat hw, h w rw'⟩
theorem x_ixT0 {α β : Type} {K : PySem.W.Frag} {R : Rp α} {S : Rp β} {G H : Hp} {v : V} {z : α × β} {Q : VK} (hx : IsT2 R S G v z) (e : Ex G H) (h : ∀ w, R G w z.1 → Q w H) : rIxT K v (.int 0) H Q := by
  obtain ⟨p, x, y, rfl, hp, hr, _⟩ := hx
  exact ⟨p, [x, y], 0, x, rfl, rfl, sqt (e _ _ hp), rfl, h x hr⟩
theorem x_ixT1 {α β : Type} {K : PySem.W.Frag} {R : Rp α} {S : Rp β} {G H : Hp} {v : V} {z : α × β} {Q : VK} (hx : IsT2 R S G v z) (e : Ex G H) (h : ∀ w, S G w z.2 → Q w H) : rIxT K v (.int 1) H Q := by
  obtain ⟨p, x, y, rfl, hp, _, hs⟩ := hx
  exact ⟨p, [x, y], 1, y, rfl, rfl, sqt (e _ _ hp), rfl, h y hs⟩
theorem x_gtup2 {α β : Type} {K : PySem.W.Frag} {R : Rp α} {S : Rp β} {G H : Hp} {v : V} {z : α × β} {i j : Nat} {σ : L2.St} {Q : L2.St → Hp → Prop} (hx : IsT2 R S G v z) (e : Ex G H) (h : ∀ x y, R G x z.1 → S G y z.2 → Q ((σ.set i (some x)).set j (some y)) H) : gTup K 2 (gCons (gName i) (gCons (gName j) gNil)) v σ H Q := by
  obtain ⟨p, x, y, rfl, hp, hr, hs⟩ := hx
  exact ⟨p, [x, y], rfl, sqt (e _ _ hp), rfl, x, [y], rfl, y, [], rfl, rfl, h x y hr hs⟩
theorem x_fld {K : PySem.W.Frag} {te : TE} {f : Str} {σ : L2.St} {H : Hp} {Q : VK} (h : te σ H fun x H1 => ∃ a C dx fs v, x = .ref a ∧ H1 a = some (.ins C dx fs) ∧ Cls K C ∧ NoAttr K C f ∧ fs.lookup f = some v ∧ Q v H1) : tFld K te f σ H Q := h
end G

/-! ## GFor2 -/
set_option Elab.async false
set_option linter.all false
set_option maxRecDepth 100000
namespace G
open PySem PySem.Spec PyProof.Rows L2
theorem sd_len : ∀ xs : List Int, (sd xs).length ≤ xs.length
  | [] => Nat.le_refl _
  | a :: r => by
    have hi : ∀ l : List Int, (ins a l).length ≤ l.length + 1 := fun l => by
      induction l with
      | nil => exact Nat.le_refl _
      | cons b l ih =>
        unfold ins
        split
        · simp
        · split
          · simp
          · simpa using ih
    exact Nat.le_trans (hi _) (Nat.succ_le_succ (sd_len r))
section
variable {K : PySem.W.Frag} {w : World} {G H : Hp} {Q : VK}
theorem x_setI {v : V} {xs : List Int} (hx : IsL IsI G v xs) (e : Ex G H) (z : xs.length + 1 < scanBound) (h : ∀ p H1 c, St G H G H1 → H1 p = some (SetO w p (fun j => decide (j ∈ xs)) c) → Q (.ref p) H1) : rSetI K w [v] H Q := by
  obtain ⟨p, ws, rfl, hp, hr⟩ := hx
  obtain rfl := paired_ints hr
  refine ⟨p, xs, rfl, sq (e _ _ hp), z, fun c p1 hp1 => ?_⟩
  obtain ⟨s1, m1⟩ := almF (o := SetO w p1 (fun j => decide (j ∈ xs)) c) hp1 e
  exact h p1 _ c s1 upd_same
theorem x_sortedSet {a : Addr} {xs : List Int} {c : Nat} (ha : H a = some (SetO w a (fun j => decide (j ∈ xs)) c)) (e : Ex G H) (h : ∀ p G1 H1, St G H G1 H1 → IsL IsI G1 (.ref p) (sd xs) → Q (.ref p) H1) : rSortedSetA w [.ref a] H Q := by
  refine ⟨a, _, c, rfl, ha, fun ns p2 hs hm hp2 => ?_⟩
  have en : ns = sd xs := sd_eq hs fun x => by rw [hm x]; simp
  subst en
  obtain ⟨s2, g2⟩ := alF (o := .lst ((sd xs).map V.int)) hp2 e
  exact h p2 _ _ s2 ⟨p2, _, rfl, g2, ints_paired _⟩
end
/-! ### displays, the wish kept apart -/
def LstGo (xs : List V) (H : Hp) (Q : VK) : Prop := xs.length ≤ sizeLine ∧ ∀ p, H p = none → Q (.ref p) (upd H p (.lst xs))
def TupGo (xs : List V) (H : Hp) (Q : VK) : Prop := xs.length ≤ sizeLine ∧ ∀ p, H p = none → Q (.ref p) (upd H p (.tup xs))
section
variable {σ : L2.St} {G H : Hp} {Q : VK}
theorem x_lstG {t : TA} (h : t σ H fun xs H1 => LstGo xs H1 Q) : tLst t σ H Q := h
theorem x_tupG {t : TA} (h : t σ H fun xs H1 => TupGo xs H1 Q) : tTup t σ H Q := h
theorem lstI {xs : List V} (e : Ex G H) (z : xs.length ≤ 1000) (h : ∀ p G1 H1, St G H G1 H1 → G1 p = some (.lst xs) → Q (.ref p) H1) : LstGo xs H Q :=
  ⟨Nat.le_trans z (by decide), fun p hp => al (Q := fun H' => Q (.ref p) H') hp e fun G1 H1 s g => h p G1 H1 s g⟩
theorem lstM {xs : List V} (e : Ex G H) (z : xs.length ≤ 1000) (h : ∀ p H1, H p = none → St G H G H1 → Mu G H1 p (.lst xs) → Q (.ref p) H1) : LstGo xs H Q :=
  ⟨Nat.le_trans z (by decide), fun p hp => alm (Q := fun H' => Q (.ref p) H') hp e fun H1 s m _ => h p H1 hp s m⟩
theorem tupI {xs : List V} (e : Ex G H) (z : xs.length ≤ 1000) (h : ∀ p G1 H1, St G H G1 H1 → G1 p = some (.tup xs) → Q (.ref p) H1) : TupGo xs H Q :=
  ⟨Nat.le_trans z (by decide), fun p hp => al (Q := fun H' => Q (.ref p) H') hp e fun G1 H1 s g => h p G1 H1 s g⟩
end
def rLenL (K : PySem.W.Frag) : List V → Hp → VK → Prop := fun xs H Q => ∃ p ys, xs = [.ref p] ∧ (SqL K H p ys ∨ SqT K H p ys) ∧ Q (.int ys.length) H
theorem cr_lenL {X : Cx} : CallR X (.builtin "len") (rLenL X.K) := call_len_seq
theorem lenL {α : Type} {K : PySem.W.Frag} {R : Rp α} {G H : Hp} {v : V} {xs : List α} {Q : VK} (hx : IsL R G v xs) (e : Ex G H) (h : Q (.int (xs.length : Nat)) H) : rLenL K [v] H Q := by
  obtain ⟨p, ws, rfl, hp, hr⟩ := hx
  exact ⟨p, ws, rfl, .inl (sq (e _ _ hp)), by rw [paired_len hr]; exact h⟩
/-- a field is read -/
def FldGo (K : PySem.W.Frag) (f : Str) (x : V) (H : Hp) (Q : VK) : Prop := ∃ a C dx fs v, x = .ref a ∧ H a = some (.ins C dx fs) ∧ Cls K C ∧ NoAttr K C f ∧ fs.lookup f = some v ∧ Q v H
theorem x_fldG {K : PySem.W.Frag} {te : TE} {f : Str} {σ : L2.St} {H : Hp} {Q : VK} (h : te σ H fun x H1 => FldGo K f x H1 Q) : tFld K te f σ H Q := h
theorem fldG {K : PySem.W.Frag} {f : Str} {a C dx : Addr} {fs : List (Str × V)} {v : V} {H : Hp} {Q : VK} (h : H a = some (.ins C dx fs)) (c : Cls K C) (n : NoAttr K C f) (l : fs.lookup f = some v) (k : Q v H) : FldGo K f (.ref a) H Q := ⟨a, C, dx, fs, v, rfl, h, c, n, l, k⟩
/-- a method's receiver -/
def MethGo (C : Addr) (m : Str) (sp : Sp) (dvs : List V) (E : XK) (t : TA) (σ : L2.St) (x : V) (H : Hp) (Q : VK) : Prop := ∃ a dx fs, x = .ref a ∧ H a = some (.ins C dx fs) ∧ fs.lookup m = none ∧ t σ H fun vs H2 => sp (x :: (vs ++ dvs)) H2 Q E
theorem x_meth {C : Addr} {m : Str} {sp : Sp} {dvs : List V} {E : XK} {ta : TE} {t : TA} {σ : L2.St} {H : Hp} {Q : VK} (h : ta σ H fun x H1 => MethGo C m sp dvs E t σ x H1 Q) : tMeth C m sp dvs E ta t σ H Q := h
theorem methG {C : Addr} {m : Str} {sp : Sp} {dvs : List V} {E : XK} {t : TA} {σ : L2.St} {a dx : Addr} {fs : List (Str × V)} {H : Hp} {Q : VK} (h : H a = some (.ins C dx fs)) (l : fs.lookup m = none) (k : t σ H fun vs H2 => sp (.ref a :: (vs ++ dvs)) H2 Q E) : MethGo C m sp dvs E t σ (.ref a) H Q := ⟨a, dx, fs, rfl, h, l, k⟩
end G
namespace G
open PySem PySem.Spec PyProof.Rows L2
section
variable {σ : L2.St} {H : Hp} {Q : VK}
theorem x_sl {r : V → Option Int → Option Int → Hp → VK → Prop} {te : TE} {tl th : TO} (h : te σ H fun x H1 => tl σ H1 fun l H2 => th σ H2 fun u H3 => r x l u H3 Q) : tSl r te tl th σ H Q := h
theorem x_nopart {R : Option Int → Hp → Prop} (h : R none H) : tNoPart σ H R := h
theorem x_part {te : TE} {R : Option Int → Hp → Prop} (h : te σ H fun x H1 => ∃ i, x = .int i ∧ R (some i) H1) : tPart te σ H R := h
theorem x_int {i : Int} {R : Int → Prop} (h : R i) : ∃ j, V.int i = .int j ∧ R j := ⟨i, rfl, h⟩
theorem x_yes {R : Bool → Hp → Prop} (h : R true H) : tYes σ H R := h
end
end G
namespace G
open PySem PySem.Spec PyProof.Rows L2
def rIsN : R2 := fun x y H Q => y = .non ∧ Q (.bl (decide (x = .non))) H
def rNotN : R2 := fun x y H Q => y = .non ∧ Q (.bl (!decide (x = .non))) H
theorem op_isNG {X : Cx} : OpR X (compareOp .Is) rIsN := op_isN
theorem op_notNG {X : Cx} : OpR X (compareOp .IsNot) rNotN := op_notN
theorem x_isNG {x : V} {H : Hp} {Q : VK} (h : Q (.bl (decide (x = .non))) H) : rIsN x .non H Q := ⟨rfl, h⟩
theorem x_notNG {x : V} {H : Hp} {Q : VK} (h : Q (.bl (!decide (x = .non))) H) : rNotN x .non H Q := ⟨rfl, h⟩
end G

/-! ## GData -/
set_option Elab.async false
set_option linter.all false
set_option maxRecDepth 100000
namespace G
open PySem PySem.Spec PyProof.Rows L2
def oD : Option Int → PyData
  | none => .none
  | some i => .int i
def rnD (z : Rn) : PyData := .tuple [.int z.1, oD z.2]
theorem rnD_lay (z : Rn) : (rnD z).canLay0 = true := by
  obtain ⟨a, b⟩ := z
  cases b <;> simp [rnD, oD, PyData.canLay0, PyData.canLayAll0]
theorem rnD_depth (z : Rn) : (rnD z).depth = 1 := by
  obtain ⟨a, b⟩ := z
  cases b <;> simp [rnD, oD, PyData.depth, PyData.depthAll]
theorem rnDs_lay : ∀ zs : List Rn, PyData.canLayAll0 (zs.map rnD) = true
  | [] => rfl
  | z :: zs => by simp [PyData.canLayAll0, rnD_lay, rnDs_lay zs]
theorem rnDs_depth : ∀ zs : List Rn, PyData.depthAll (zs.map rnD) ≤ 1
  | [] => Nat.zero_le _
  | z :: zs => by
    have := rnDs_depth zs
    simp only [List.map_cons, PyData.depthAll, rnD_depth]
    omega
theorem rnD_shaped (z : Rn) : SeqAt.shaped (rnD z) = true := by
  unfold SeqAt.shaped
  rw [rnD_lay, rnD_depth]; rfl
theorem rnDs_shaped (zs : List Rn) : SeqAt.shaped (.list (zs.map rnD)) = true := by
  unfold SeqAt.shaped
  have h := rnDs_depth zs
  have h1 : (PyData.list (zs.map rnD)).canLay0 = true := by show PyData.canLayAll0 _ = true; exact rnDs_lay zs
  have h2 : (PyData.list (zs.map rnD)).depth ≤ 64 := by show PyData.depthAll _ + 1 ≤ 64; omega
  rw [h1, Bool.true_and]
  exact decide_eq_true h2
theorem oD_eqv (a b : Option Int) : PyData.eqv (oD a) (oD b) = decide (a = b) := by
  cases a <;> cases b <;> simp [oD, PyData.eqv]
  rename_i x y
  by_cases c : x = y <;> simp [c]
theorem rnD_eqv (z w : Rn) : PyData.eqv (rnD z) (rnD w) = decide (z = w) := by
  obtain ⟨a, b⟩ := z
  obtain ⟨c, d⟩ := w
  simp only [rnD, PyData.eqv, PyData.eqvAll, oD_eqv, Prod.mk.injEq, Bool.and_true]
  by_cases h1 : a = c <;> by_cases h2 : b = d <;> simp [h1, h2]
theorem nilD_eqv (zs : List Rn) : PyData.eqv (.list (zs.map rnD)) (.list []) = zs.isEmpty := by
  cases zs <;> rfl
section
variable {K : PySem.W.Frag} {G H : Hp} {Q : VK}
theorem dp_o {o : Option Int} : Dp K H (optV o) (oD o) := by cases o; exact .non; exact .int _
theorem dp_rn {v : V} {z : Rn} (hx : IsRn G v z) (e : Ex G H) : Dp K H v (rnD z) := by
  obtain ⟨p, x, y, rfl, hp, rfl, rfl⟩ := hx
  exact .tup (sqt (e _ _ hp)) (.cons (.int _) (.cons dp_o .nil))
theorem dp_all (e : Ex G H) : ∀ {vs : List V} {zs : List Rn}, Paired (IsRn G) vs zs → DpAll K H vs (zs.map rnD)
  | _, _, .nil => .nil
  | _, _, .cons r t => .cons (dp_rn r e) (dp_all e t)
theorem dp_rns {v : V} {zs : List Rn} (hx : IsL IsRn G v zs) (e : Ex G H) : Dp K H v (.list (zs.map rnD)) := by
  obtain ⟨p, ws, rfl, hp, hr⟩ := hx
  exact .lst (sq (e _ _ hp)) (dp_all e hr)
/-- runs != [] -/
theorem neNil {v : V} {zs : List Rn} {p : Addr} (hx : IsL IsRn G v zs) (e : Ex G H) (hp : H p = some (.lst [])) (h : Q (.bl (!zs.isEmpty)) H) : rNeD K v (.ref p) H Q :=
  ⟨_, _, dp_rns hx e, .lst (sq hp) .nil, rnDs_shaped zs, by rfl, by rw [nilD_eqv]; exact h⟩
/-- run not in runs -/
theorem notInRn {v u : V} {z : Rn} {zs : List Rn} (hz : IsRn G v z) (hx : IsL IsRn G u zs) (e : Ex G H) (h : Q (.bl (!zs.contains z)) H) : rNotInD K v u H Q := by
  refine ⟨_, _, dp_rn hz e, dp_rns hx e, rnD_shaped z, rnDs_shaped zs, ?_⟩
  have e2 : ((zs.map rnD).any fun y => PyData.eqv y (rnD z)) = zs.contains z := by
    rw [List.any_map, List.contains_eq_any_beq]
    congr 1
    funext y
    show PyData.eqv (rnD y) (rnD z) = (z == y)
    rw [rnD_eqv]
    by_cases c : y = z
    · subst c; simp
    · have c' : ¬ z = y := fun q => c q.symm
      simp [c, c']
  rw [e2]; exact h
/-- xs + ys -/
theorem catL {α : Type} {R : Rp α} (mR : Mono R) {v u : V} {xs ys : List α} (hx : IsL R G v xs) (hy : IsL R G u ys) (e : Ex G H) (z : xs.length + ys.length ≤ sizeLine) (h : ∀ p G1 H1, St G H G1 H1 → IsL R G1 (.ref p) (xs ++ ys) → Q (.ref p) H1) : rCat v u H Q := by
  obtain ⟨p, ws, rfl, hp, hr⟩ := hx
  obtain ⟨q, zs, rfl, hq, hs⟩ := hy
  refine ⟨p, q, ws, zs, rfl, rfl, e _ _ hp, e _ _ hq, by rw [paired_len hr, paired_len hs]; exact z, fun r hr' => ?_⟩
  obtain ⟨s, g⟩ := alF (o := .lst (ws ++ zs)) hr' e
  exact h r _ _ s ⟨r, _, rfl, g, paired_imp (fun a b q => mR _ _ a b s.g q) (paired_app hr hs)⟩
/-- xs[:-1] -/
theorem sliceInit {α : Type} {R : Rp α} (mR : Mono R) {v : V} {xs : List α} (hx : IsL R G v xs) (e : Ex G H) (h : ∀ p G1 H1, St G H G1 H1 → IsL R G1 (.ref p) xs.dropLast → Q (.ref p) H1) : rSlL K v none (some (-1)) H Q := by
  obtain ⟨p, ws, rfl, hp, hr⟩ := hx
  refine ⟨p, ws, rfl, sq (e _ _ hp), fun r hr' => ?_⟩
  have ec : cutV ws none (some (-1)) = ws.dropLast := by
    rcases ws.eq_nil_or_concat with rfl | ⟨l, a, rfl⟩
    · rfl
    · have e1 : (-1 + ((l.length : Int) + 1)).toNat = l.length := by omega
      simp [cutV, HT.sIx, e1]
  obtain ⟨s, g⟩ := alF (o := .lst (cutV ws none (some (-1)))) hr' e
  have g' := g
  rw [ec] at g'
  rw [ec] at s
  have s' := s
  refine h r (upd G r (.lst ws.dropLast)) (upd H r (.lst (cutV ws none (some (-1))))) (by rw [ec]; exact s) ⟨r, _, rfl, by rw [upd_same], ?_⟩
  have pd : ∀ {ws : List V} {xs : List α}, Paired (R G) ws xs → Paired (R G) ws.dropLast xs.dropLast := by
    intro ws xs hr
    induction hr with
    | nil => exact .nil
    | cons r t ih =>
      cases t with
      | nil => exact .nil
      | cons r2 t2 => exact .cons r ih
  exact paired_imp (fun a b q => mR _ _ a b s.g q) (pd hr)
/-- xs[-1] -/
theorem ixLast {α : Type} {R : Rp α} {v : V} {xs : List α} {x : α} (hx : IsL R G v xs) (e : Ex G H) (hl : xs.getLast? = some x) (h : ∀ w, R G w x → Q w H) : rIxL K v (.int (-1)) H Q := by
  obtain ⟨p, ws, rfl, hp, hr⟩ := hx
  rcases ws.eq_nil_or_concat with rfl | ⟨l, a, rfl⟩
  · cases hr; cases hl
  · have hl2 : (l ++ [a]).getLast? = some a := by simp
    have hlen := paired_len hr
    have hlast : (l ++ [a])[l.length]? = some a := by simp
    rw [List.concat_eq_append] at *
    obtain ⟨y, hy, ry⟩ := paired_get (i := l.length) (x := a) hr hlast
    have : xs.getLast? = some y := by
      rw [List.getLast?_eq_getElem?, ← hlen]
      simpa using hy
    rw [hl] at this
    cases this
    exact ⟨p, l ++ [a], -1, a, rfl, rfl, sq (e _ _ hp), atI_last l a, h a ry⟩
end
end G

/-! ## GCall -/
set_option Elab.async false
set_option linter.all false
set_option maxRecDepth 100000
namespace G
open PySem PySem.Spec PyProof.Rows L2
/-- a call of a slot that holds one of several defs -/
def tCallO (i : Nat) (S : Addr → Sp → Prop) (t : TA) : TE := fun σ H Q => ∃ f sp, σ[i]? = some (some (.ref f)) ∧ S f sp ∧ t σ H fun vs H1 => sp vs H1 Q (fun _ _ _ => False)
section
variable {X : Cx} {k i : Nat} {x : Str} {p pos : Pos} {e : Expr} {es : List Expr} {t : TA}
theorem pe_callO {S : Addr → Sp → Prop} (A : ∀ f sp, S f sp → Held X.prog X.w X.K X.mg X.base k f sp) (hr : Room k X.A) (hN : X.N[i]? = some x) (hv : Vis X.env.scope x) (ha : PA X (e :: es) t)
    (hdb : (x == ("__debug__" : Str)) = false := by decide) (hcd : (x == ("__classdict__" : Str)) = false := by decide)
    (he : starEach (e :: es) X.env = (false, eval e X.env) :: starEach es X.env := by rfl) (hpl : (backTo pos (starEach es X.env)).any (·.1) = false := by rfl) : PE X (.Call (.Name x p) (e :: es) [] pos) (tCallO i S t) := by
  refine ⟨fun pins s σ H Q I h => ?_⟩
  obtain ⟨f, sp, hs, hS, ht⟩ := h
  obtain ⟨fd, ps, F, hk, hb⟩ := (A f sp hS).ex
  refine (pe_callL (i := i) (f := f) (sp := sp) (dvs := []) (E := fun _ _ _ => False) F hr hN hv hk hb .nil (fun _ _ _ _ _ _ _ z => z.elim) ha hdb hcd he hpl).run pins s σ H Q I ⟨hs, ?_⟩
  have e0 : (fun (vs : List V) (H1 : Hp) => sp (vs ++ []) H1 Q (fun _ _ _ => False)) = fun vs H1 => sp vs H1 Q (fun _ _ _ => False) := by
    funext vs H1
    rw [List.append_nil]
  show t σ H (fun vs H1 => sp (vs ++ []) H1 Q (fun _ _ _ => False))
  rw [e0]
  exact ht
end
section
variable {K : PySem.W.Frag} {σ : L2.St} {H G : Hp} {Q : VK}
theorem x_callO {i : Nat} {f : Addr} {sp : Sp} {S : Addr → Sp → Prop} {t : TA} (e : σ[i]? = some (some (.ref f))) (hS : S f sp) (h : t σ H fun vs H1 => sp vs H1 Q (fun _ _ _ => False)) : tCallO i S t σ H Q := ⟨f, sp, e, hS, h⟩
theorem anyL {v : V} {bs : List Bool} (hx : IsL IsB G v bs) (e : Ex G H) (h : Q (.bl (bs.any id)) H) : rAny K [v] H Q := by
  obtain ⟨p, ws, rfl, hp, hr⟩ := hx
  obtain rfl := paired_bools hr
  exact ⟨p, bs, rfl, sq (e _ _ hp), h⟩
theorem allL {v : V} {bs : List Bool} (hx : IsL IsB G v bs) (e : Ex G H) (h : Q (.bl (bs.all id)) H) : rAll K [v] H Q := by
  obtain ⟨p, ws, rfl, hp, hr⟩ := hx
  obtain rfl := paired_bools hr
  exact ⟨p, bs, rfl, sq (e _ _ hp), h⟩
end
/-! ### rules with the fragment named -/
section
variable {X : Cx} {K : PySem.W.Frag} {e : Expr} {f : Str} {pos : Pos} {ta : TE}
theorem fldK (he : PE X e ta) (hK : X.K = K) (hb : attributeBase e f X.env (eval e X.env) = eval e X.env) : PE X (.Attribute e f pos) (tFld K ta f) := by
  subst hK; exact pe_fld he hb
theorem ixLK (hK : X.K = K) : IxR X (rIxL K) := by subst hK; exact ix_list
theorem ixTK (hK : X.K = K) : IxR X (rIxT K) := by subst hK; exact ix_tup
theorem isiK (hK : X.K = K) : CallR X (.builtin "isinstance") (rIsi K) := by subst hK; exact call_isi
theorem lenK (hK : X.K = K) : CallR X (.builtin "len") (rLenL K) := by subst hK; exact cr_lenL
end
end G

/-! ## GMake -/
set_option Elab.async false
set_option linter.all false
set_option maxRecDepth 100000
namespace G
open PySem PySem.Spec PyProof.Rows L2
/-- a field is written -/
def SFldGo (K : PySem.W.Frag) (f : Str) (x y : V) (D : Ends) (σ : L2.St) (H : Hp) : Prop := ∃ a C dx fs, x = .ref a ∧ H a = some (.ins C dx fs) ∧ Cls K C ∧ NoAttr K C f ∧ fs.length < 1000 ∧ D.nx σ (upd H a (.ins C dx (putF f y fs)))
def MakeGo (C : Addr) (sp : Sp) (dvs vs : List V) (H : Hp) (Q : VK) (E : XK) : Prop := ∀ x dx, H x = none → H dx = none → dx ≠ x → sp (.ref x :: (vs ++ dvs)) (upd (upd H dx (.own x)) x (.ins C dx [])) (fun v H2 => v = .non ∧ Q (.ref x) H2) E
section
variable {K : PySem.W.Frag} {σ : L2.St} {H G : Hp} {Q : VK} {D : Ends}
theorem x_sfld {ta tv : TE} {f : Str} (h : tv σ H fun y H1 => ta σ H1 fun x H2 => SFldGo K f x y D σ H2) : sFld K ta tv f D σ H := h
theorem setF {f : Str} {a C dx : Addr} {fs : List (Str × V)} {y : V} (h : H a = some (.ins C dx fs)) (c : Cls K C) (n : NoAttr K C f) (l : fs.length < 1000) (k : D.nx σ (upd H a (.ins C dx (putF f y fs)))) : SFldGo K f (.ref a) y D σ H := ⟨a, C, dx, fs, rfl, h, c, n, l, k⟩
theorem x_make {C : Addr} {sp : Sp} {dvs : List V} {E : XK} {t : TA} (h : t σ H fun vs H1 => MakeGo C sp dvs vs H1 Q E) : tMake C sp dvs E t σ H Q := h
theorem x_rt {v : V} {D : Ends} (h : D.rt v H) : D.rt v H := h
/-- an own object, empty as it is made: what its __init__ gets -/
theorem makeG {C : Addr} {sp : Sp} {dvs vs : List V} {E : XK} (e : Ex G H) (h : ∀ x dx H1, H x = none → H dx = none → dx ≠ x → St G H G H1 → Mu G H1 x (.ins C dx []) → sp (.ref x :: (vs ++ dvs)) H1 (fun v H2 => v = .non ∧ Q (.ref x) H2) E) : MakeGo C sp dvs vs H Q E := by
  intro x dx hx hd hn
  obtain ⟨s1, m1⟩ := almF (o := .own x) hd e
  have hx1 : (upd H dx (.own x)) x = none := by rw [upd_ne (fun z => hn z.symm)]; exact hx
  obtain ⟨s2, m2⟩ := almF (o := .ins C dx []) hx1 s1.i
  exact h x dx _ hx hd hn (s1.trans s2) m2
end
end G

/-! ## GForm -/
set_option Elab.async false
set_option linter.all false
set_option maxRecDepth 100000
namespace G
open PySem PySem.Spec PyProof.Rows L2
/-! ### form_of: what it makes -/
abbrev Bg := List (Rn × Int)
def gone (beh : Option Int) (f : Int) (runs : List Rn) (x : Rn × Int) : Bool := !runs.contains x.1 || !decide (f = beh.getD 0 + 1)
def keep (beh : Option Int) (f : Int) (runs : List Rn) (x : Rn × Int) : Bool := !gone beh f runs x
def setd (f : Int) (bg : Bg) (r : Rn) : Bg := if (bg.any fun x => decide (x.1 = r)) = true then bg else bg ++ [(r, f)]
def mkB (beh : Option Int) (x : Rn × Int) : Blk := ⟨x.2, x.1.1, beh, x.1.2⟩
structure FS where
  found : List Blk
  begun : Bg
  behind : Option Int
def formStep (s : FS) (b : Band) : FS := ⟨s.found ++ (s.begun.filter (gone s.behind b.1 b.2.2)).map (mkB s.behind), b.2.2.foldl (setd b.1) (s.begun.filter (keep s.behind b.1 b.2.2)), b.2.1⟩
def formSt (bs : List Band) : FS := bs.foldl formStep ⟨[], [], some 0⟩
def formRaw (bs : List Band) : List Blk := (formSt bs).found ++ (formSt bs).begun.map (mkB (formSt bs).behind)
def leB (a b : Blk) : Bool := decide (a.t < b.t) || (decide (a.t = b.t) && decide (a.l ≤ b.l))
def insB (x : Blk) : List Blk → List Blk
  | [] => [x]
  | y :: r => if leB x y = true then x :: y :: r else y :: insB x r
def sortB (xs : List Blk) : List Blk := xs.foldr insB []
def formOf (bs : List Band) : List Blk := sortB (formRaw bs)
theorem insB_perm (x : Blk) : ∀ l : List Blk, (insB x l).Perm (x :: l)
  | [] => List.Perm.refl _
  | y :: r => by
    unfold insB
    split
    · exact List.Perm.refl _
    · exact ((insB_perm x r).cons y).trans (List.Perm.swap x y r)
theorem sortB_perm : ∀ l : List Blk, (sortB l).Perm l
  | [] => List.Perm.refl _
  | x :: r => (insB_perm x _).trans ((sortB_perm r).cons x)
theorem leB_iff (a b : Blk) : leB a b = true ↔ a.t < b.t ∨ (a.t = b.t ∧ a.l ≤ b.l) := by
  unfold leB
  rw [Bool.or_eq_true, Bool.and_eq_true]
  simp
theorem leB_tot {a b : Blk} (h : ¬ leB a b = true) : leB b a = true := by
  rw [leB_iff] at *; omega
theorem leB_trans {a b c : Blk} (h : leB a b = true) (g : leB b c = true) : leB a c = true := by
  rw [leB_iff] at *; omega
theorem insB_sorted (x : Blk) : ∀ l : List Blk, l.Pairwise (fun a b => leB a b = true) → (insB x l).Pairwise (fun a b => leB a b = true)
  | [], _ => by simp [insB]
  | y :: r, h => by
    have h' := List.pairwise_cons.mp h
    unfold insB
    split
    · rename_i c
      refine List.pairwise_cons.mpr ⟨fun z hz => ?_, h⟩
      rcases List.mem_cons.mp hz with e | e
      · rw [e]; exact c
      · exact leB_trans c (h'.1 z e)
    · rename_i c
      refine List.pairwise_cons.mpr ⟨fun z hz => ?_, insB_sorted x r h'.2⟩
      rcases List.mem_cons.mp ((insB_perm x r).mem_iff.mp hz) with e | e
      · rw [e]; exact leB_tot c
      · exact h'.1 z e
theorem sortB_sorted : ∀ l : List Blk, (sortB l).Pairwise (fun a b => leB a b = true)
  | [] => List.Pairwise.nil
  | x :: r => insB_sorted x _ (sortB_sorted r)
theorem perm_sorted : ∀ {a b : List Blk}, a.Perm b → a.Pairwise (fun x y => leB x y = true) → b.Pairwise (fun x y => leB x y = true) → (∀ x ∈ b, ∀ y ∈ b, x.t = y.t → x.l = y.l → x = y) → a = b
  | [], b, p, _, _, _ => (List.Perm.nil_eq p)
  | x :: a, [], p, _, _, _ => absurd (List.Perm.length_eq p) (by simp)
  | x :: a, y :: b, p, ha, hb, hn => by
    have ha' := List.pairwise_cons.mp ha
    have hb' := List.pairwise_cons.mp hb
    have hx : x ∈ y :: b := p.mem_iff.mp (List.mem_cons_self ..)
    have hy : y ∈ x :: a := p.mem_iff.mpr (List.mem_cons_self ..)
    have e : x = y := by
      rcases List.mem_cons.mp hx with e | e
      · exact e
      · rcases List.mem_cons.mp hy with f | f
        · exact f.symm
        · have q1 := (leB_iff _ _).mp (hb'.1 x e)
          have q2 := (leB_iff _ _).mp (ha'.1 y f)
          exact hn x hx y (List.mem_cons_self ..) (by omega) (by omega)
    subst e
    rw [perm_sorted (List.Perm.cons_inv p) ha'.2 hb'.2 fun u hu v hv => hn u (List.mem_cons_of_mem _ hu) v (List.mem_cons_of_mem _ hv)]
/-- no two of the blocks begin at one cell -/
def apart (xs : List Blk) : Bool := decide ((xs.map fun b => (b.t, b.l)).Nodup)
theorem apart_of : ∀ {xs : List Blk}, (xs.map fun b => (b.t, b.l)).Nodup → ∀ x ∈ xs, ∀ y ∈ xs, x.t = y.t → x.l = y.l → x = y
  | z :: xs, h, x, hx, y, hy, e1, e2 => by
    have h' := List.nodup_cons.mp h
    rcases List.mem_cons.mp hx with rfl | hx'
    · rcases List.mem_cons.mp hy with rfl | hy'
      · rfl
      · exact absurd (List.mem_map.mpr ⟨y, hy', by show (y.t, y.l) = (x.t, x.l); rw [e1, e2]⟩) h'.1
    · rcases List.mem_cons.mp hy with rfl | hy'
      · exact absurd (List.mem_map.mpr ⟨x, hx', by show (x.t, x.l) = (y.t, y.l); rw [e1, e2]⟩) h'.1
      · exact apart_of h'.2 x hx' y hy' e1 e2
theorem sort_unique {ys xs : List Blk} (p : ys.Perm xs) (s : ys.Pairwise fun x y => leB x y = true) (h : apart xs = true) : ys = sortB xs := by
  have h0 : (xs.map fun b => (b.t, b.l)).Nodup := of_decide_eq_true h
  refine perm_sorted (p.trans (sortB_perm xs).symm) s (sortB_sorted xs) fun x hx y hy e1 e2 => ?_
  exact apart_of h0 x ((sortB_perm xs).mem_iff.mp hx) y ((sortB_perm xs).mem_iff.mp hy) e1 e2
/-- behind every band but the last another begins -/
def chained (bs : List Band) : Bool := bs.dropLast.all fun b => b.2.1.isSome
/-! ### the dict of what is begun -/
def DX (G : Hp) (xs : Xs) (bg : Bg) : Prop := Paired (fun x y => x.1 = y.1 ∧ x.2.2 = .int y.2 ∧ G x.2.1 = some (.tup [.int y.1.1, optV y.1.2])) xs bg
theorem DX.mono {G G' : Hp} {xs : Xs} {bg : Bg} (h : DX G xs bg) (e : Ex G G') : DX G' xs bg := paired_imp (fun a b q => ⟨q.1, q.2.1, e _ _ q.2.2⟩) h
theorem DX.kx {G H : Hp} (e : Ex G H) : ∀ {xs : Xs} {bg : Bg}, DX G xs bg → KX H xs
  | _, _, .nil => fun x hx => by cases hx
  | _, _, .cons (a := a) r t => fun x hx => by
    rcases List.mem_cons.mp hx with rfl | h
    · rw [r.1]; exact e _ _ r.2.2
    · exact DX.kx e t x h
theorem DX.len {G : Hp} {xs : Xs} {bg : Bg} (h : DX G xs bg) : xs.length = bg.length := paired_len h
theorem DX.val {G : Hp} (r : Rn) : ∀ {xs : Xs} {bg : Bg}, DX G xs bg → ((valX xs r).isSome = bg.any fun x => decide (x.1 = r))
  | _, _, .nil => rfl
  | _, _, .cons (a := a) (b := b) q t => by
    have ih := DX.val r t
    unfold valX at ih ⊢
    rw [List.find?_cons, List.any_cons, q.1]
    by_cases c : b.1 = r
    · rw [decide_eq_true c]; rfl
    · rw [decide_eq_false c]; exact ih
theorem DX.drop {G : Hp} (r : Rn) : ∀ {xs : Xs} {bg : Bg}, DX G xs bg → DX G (dropX xs r) (bg.filter fun x => decide (x.1 ≠ r))
  | _, _, .nil => .nil
  | _, _, .cons (a := a) (b := b) q t => by
    have ih := DX.drop r t
    unfold dropX at ih ⊢
    rw [List.filter_cons, List.filter_cons, q.1]
    by_cases c : b.1 = r
    · rw [if_neg (by simp [c]), if_neg (by simp [c])]; exact ih
    · rw [if_pos (by simp [c]), if_pos (by simp [c])]; exact .cons q ih
theorem DX.snoc {G : Hp} {xs : Xs} {bg : Bg} {t : Addr} {r : Rn} {f : Int} (h : DX G xs bg) (g : G t = some (.tup [.int r.1, optV r.2])) : DX G (xs ++ [(r, t, .int f)]) (bg ++ [(r, f)]) := paired_snoc ⟨rfl, rfl, g⟩ h
def kNd (bg : Bg) : Prop := (bg.map (·.1)).Nodup
theorem setd_nd {f : Int} {bg : Bg} {r : Rn} (h : kNd bg) : kNd (setd f bg r) := by
  unfold setd
  split
  · exact h
  · rename_i c
    unfold kNd
    rw [List.map_append]
    refine List.nodup_append.mpr ⟨h, by simp, fun a ha b hb => ?_⟩
    simp only [List.map_cons, List.map_nil, List.mem_singleton] at hb
    subst hb
    rintro rfl
    refine c ?_
    obtain ⟨x, hx, e⟩ := List.mem_map.mp ha
    exact List.any_eq_true.mpr ⟨x, hx, decide_eq_true e⟩
theorem setds_nd {f : Int} : ∀ (rs : List Rn) {bg : Bg}, kNd bg → kNd (rs.foldl (setd f) bg)
  | [], _, h => h
  | r :: rs, _, h => setds_nd rs (setd_nd h)
theorem filter_nd {bg : Bg} {p : Rn × Int → Bool} (h : kNd bg) : kNd (bg.filter p) := List.Nodup.sublist (List.Sublist.map _ (List.filter_sublist ..)) h
/-- a key taken out of the middle -/
theorem drop_mid {bg : Bg} {p : Rn × Int → Bool} {i : Nat} {x : Rn × Int} (h : kNd bg) (hi : bg[i]? = some x) : (((bg.take i).filter p ++ bg.drop i).filter fun y => decide (y.1 ≠ x.1)) = (bg.take i).filter p ++ bg.drop (i + 1) := by
  have hil : i < bg.length := (List.getElem?_eq_some_iff.mp hi).1
  have hx : bg[i] = x := (List.getElem?_eq_some_iff.mp hi).2
  have hd : bg.drop i = x :: bg.drop (i + 1) := by rw [List.drop_eq_getElem_cons hil, hx]
  have hs : bg = bg.take i ++ x :: bg.drop (i + 1) := by rw [← hd, List.take_append_drop]
  unfold kNd at h
  rw [hs, List.map_append, List.map_cons] at h
  have hn := List.nodup_append.mp h
  have hc := List.nodup_cons.mp hn.2.1
  have e1 : (((bg.take i).filter p).filter fun y => decide (y.1 ≠ x.1)) = (bg.take i).filter p := by
    refine List.filter_eq_self.mpr fun y hy => decide_eq_true fun c => ?_
    refine hn.2.2 y.1 (List.mem_map_of_mem (List.mem_filter.mp hy).1) x.1 (List.mem_cons_self ..) c
  have e2 : ((bg.drop (i + 1)).filter fun y => decide (y.1 ≠ x.1)) = bg.drop (i + 1) := by
    refine List.filter_eq_self.mpr fun y hy => decide_eq_true fun c => ?_
    exact hc.1 (by rw [← c]; exact List.mem_map_of_mem hy)
  rw [List.filter_append, e1, hd, List.filter_cons, if_neg (by simp), e2]
end G

/-! ## GForm2 -/
set_option Elab.async false
set_option linter.all false
set_option maxRecDepth 100000
namespace G
open PySem PySem.Spec PyProof.Rows L2
theorem Stm.close {G H G' H' : Hp} {d : Addr} {u : HO} (s : Stm [d] G H G' H') (m : Mu G H d u) (m' : Mu G' H' d u) : St G H G' H' :=
  ⟨s.g, s.i, fun q o _ h => by
    by_cases c : q = d
    · subst c
      have : o = u := Option.some.inj (h.1.symm.trans m.1)
      rw [this]; exact m'
    · exact s.m q o (fun z => c (List.mem_singleton.mp z)) h⟩
abbrev IsRnI : Rp (Rn × Int) := IsT2 IsRn IsI
theorem IsRnI.mono : Mono IsRnI := IsT2.mono IsRn.mono IsI.mono
/-- a dict of runs, each with where it began -/
def MuX (P : Program) (w : World) (G H : Hp) (d : Addr) (bg : Bg) : Prop := ∃ xs, Mu G H d (dxO P w d xs) ∧ DX G xs bg
section
variable {P : Program} {w : World} {K : PySem.W.Frag} {σ : L2.St} {G H : Hp} {Q : VK} {d : Addr} {bg : Bg}
theorem MuX.st {G1 H1 : Hp} (m : MuX P w G H d bg) (s : St G H G1 H1) : MuX P w G1 H1 d bg := by
  obtain ⟨xs, m, h⟩ := m
  exact ⟨xs, s.mu m, h.mono s.g⟩
theorem MuX.to {G1 H1 : Hp} {A : List Addr} (m : MuX P w G H d bg) (s : Stm A G H G1 H1) (n : d ∉ A) : MuX P w G1 H1 d bg := by
  obtain ⟨xs, m, h⟩ := m
  exact ⟨xs, s.m _ _ n m, h.mono s.g⟩
theorem MuX.no (m : MuX P w G H d bg) : G d = none := by obtain ⟨xs, m, h⟩ := m; exact m.2
def DNewGo (P : Program) (w : World) (H : Hp) (Q : VK) : Prop := ∀ p, H p = none → Q (.ref p) (upd H p (dxO P w p []))
theorem x_dnew (h : DNewGo P w H Q) : tDNewX P w σ H Q := h
theorem dnewX (e : Ex G H) (h : ∀ p H1, H p = none → St G H G H1 → MuX P w G H1 p [] → Q (.ref p) H1) : DNewGo P w H Q := by
  intro p hp
  obtain ⟨s, m⟩ := almF (o := dxO P w p []) hp e
  exact h p _ hp s ⟨[], m, .nil⟩
theorem x_bmX {r : V → List V → Hp → VK → Prop} {to : TE} {t : TA} (h : to σ H fun x H1 => (∃ d xs, x = .ref d ∧ H1 d = some (dxO P w d xs)) ∧ t σ H1 fun ys H2 => r x ys H2 Q) : tBMX P w r to t σ H Q := h
theorem tyX (m : MuX P w G H d bg) : ∃ d' xs, V.ref d = .ref d' ∧ H d' = some (dxO P w d' xs) := by obtain ⟨xs, m, _⟩ := m; exact ⟨d, xs, rfl, m.1⟩
theorem x_litems {te : TE} (h : te σ H fun x H1 => rItemsX P w x H1 Q) : tListItemsX P w te σ H Q := h
theorem popG {v : V} {r : Rn} (m : MuX P w G H d bg) (e : Ex G H) (hv : IsRn G v r) (hin : (bg.any fun x => decide (x.1 = r)) = true) (h : ∀ H1 u, Stm [d] G H G H1 → MuX P w G H1 d (bg.filter fun x => decide (x.1 ≠ r)) → Q u H1) : rPopX P w (.ref d) [v] H Q := by
  obtain ⟨xs, m, hx⟩ := m
  obtain ⟨p, x, y, rfl, hp, h1, h2⟩ := hv
  cases h1
  cases h2
  have hs := hx.val r
  rw [hin] at hs
  obtain ⟨u, hu⟩ := Option.isSome_iff_exists.mp hs
  obtain ⟨s, m'⟩ := chgF (o' := dxO P w d (dropX xs r)) m e
  exact ⟨d, xs, p, r, u, rfl, rfl, m.1, hx.kx e, e _ _ hp, hu, h _ _ s ⟨_, m', hx.drop r⟩⟩
theorem setdG {v : V} {r : Rn} {f : Int} (m : MuX P w G H d bg) (e : Ex G H) (hv : IsRn G v r) (hz : bg.length < sizeLine) (h : ∀ H1 u, Stm [d] G H G H1 → MuX P w G H1 d (setd f bg r) → Q u H1) : rSetdX P w (.ref d) [v, .int f] H Q := by
  obtain ⟨xs, m, hx⟩ := m
  obtain ⟨p, x, y, rfl, hp, h1, h2⟩ := hv
  cases h1
  cases h2
  have hs := hx.val r
  refine ⟨d, xs, p, r, _, rfl, rfl, m.1, hx.kx e, e _ _ hp, by rw [hx.len]; exact hz, fun u hu => ?_, fun hu => ?_⟩
  · rw [hu] at hs
    refine h _ _ (Stm.refl e) ⟨xs, m, ?_⟩
    unfold setd
    rw [if_pos (show (bg.any fun x => decide (x.1 = r)) = true from hs.symm)]; exact hx
  · rw [hu] at hs
    obtain ⟨s, m'⟩ := chgF (o' := dxO P w d (xs ++ [(r, p, .int f)])) m e
    refine h _ _ s ⟨_, m', ?_⟩
    unfold setd
    rw [if_neg (by rw [← hs]; exact Bool.false_ne_true)]
    exact hx.snoc hp
theorem itemsP {H' : Hp} : ∀ {ts : List Addr} {xs : Xs} {bg : Bg}, Paired (fun (t : Addr) (q : V × V) => H' t = some (.tup [q.1, q.2])) ts (xs.map prX) → DX G xs bg → (∀ t ∈ ts, G t = H' t) → Paired (IsRnI G) (ts.map V.ref) bg
  | ts, [], bg, ht, hx, h => by
    cases hx
    cases ht
    exact .nil
  | ts, x :: xs, bg, ht, hx, h => by
    cases hx with
    | cons q t =>
      cases ht with
      | cons q2 t2 =>
        rename_i t0 _
        have z := h t0 (List.mem_cons_self ..)
        rw [q2] at z
        exact .cons ⟨t0, _, _, rfl, z, ⟨_, _, _, rfl, q.2.2, rfl, rfl⟩, q.2.1⟩ (itemsP t2 t fun u hu => h u (List.mem_cons_of_mem _ hu))
open Classical in
theorem itemsL (m : MuX P w G H d bg) (e : Ex G H) (h : ∀ G1 H1 p, St G H G1 H1 → IsL IsRnI G1 (.ref p) bg → Q (.ref p) H1) : rItemsX P w (.ref d) H Q := by
  obtain ⟨xs, m, hx⟩ := m
  refine ⟨d, xs, rfl, m.1, fun H' p ts hE hp hts hpt hl ht => ?_⟩
  have hG : ∀ a o, G a = some o → a ≠ p ∧ a ∉ ts := fun a o q => ⟨fun c => (by have z := e _ _ q; rw [c, hp] at z; cases z), fun c => (by have z := e _ _ q; rw [hts a c] at z; cases z)⟩
  let G1 : Hp := fun a => if a = p ∨ a ∈ ts then H' a else G a
  have g1 : Ex G G1 := fun a o q => by
    show (if a = p ∨ a ∈ ts then H' a else G a) = _
    rw [if_neg (by have := hG a o q; rintro (c | c); exact this.1 c; exact this.2 c)]; exact q
  have s : St G H G1 H' := ⟨g1, fun a o q => by
    have q' : (if a = p ∨ a ∈ ts then H' a else G a) = some o := q
    split at q'
    · exact q'
    · exact hE _ _ (e _ _ q'), fun a o _ q => ⟨hE _ _ q.1, by
    show (if a = p ∨ a ∈ ts then H' a else G a) = _
    rw [if_neg]
    · exact q.2
    · have q1 := q.1
      rintro (c | c)
      · rw [c, hp] at q1; cases q1
      · rw [hts a c] at q1; cases q1⟩⟩
  refine h G1 H' p s ⟨p, _, rfl, by show (if p = p ∨ p ∈ ts then H' p else G p) = _; rw [if_pos (.inl rfl)]; exact hl, ?_⟩
  have hx1 := hx.mono g1
  have hmem : ∀ t ∈ ts, G1 t = H' t := fun t ht => by show (if t = p ∨ t ∈ ts then H' t else G t) = _; rw [if_pos (.inr ht)]
  exact itemsP ht hx1 hmem
end
end G

/-! ## GForm3 -/
set_option Elab.async false
set_option linter.all false
set_option maxRecDepth 100000
namespace G
open PySem PySem.Spec PyProof.Rows L2
section
variable {P : Program} {w : World} {K : PySem.W.Frag} {σ : L2.St} {G H : Hp} {Q : VK} {d : Addr} {bg : Bg}
theorem walk_itemsX {o : Obj} {xs : Xs} : Walk (ItX P w d o xs) xs.length (fun H => H d = some (.frz o (dxO P w d xs))) fun i H x H' => ∃ T y, xs[i]? = some y ∧ x = .ref T ∧ H T = none ∧ H' = upd H T (.tup [.ref y.2.1, y.2.2]) :=
  ⟨fun _ _ hi h => ⟨h, hi⟩, fun _ h => ⟨h, Nat.le_refl _⟩, fun _ _ _ _ _ _ y => y⟩
/-- [.. for run, top in begun.items()] -/
theorem lcX {β : Type} {S : Rp β} (mS : Mono S) {td te : TE} {gt : TG} {tt : TT} {vs : List Nat} (hd : ∀ (H : Hp) (R : VK), R (.ref d) H → td σ H R) (m : MuX P w G H d bg) (e : Ex G H) (hz : bg.length < sizeLine) (g : Rn × Int → β)
    (turn : ∀ (y : Rn × Int) (T : Addr) (G1 H1 : Hp) (N0 : Hp → Prop) (N1 : VK), y ∈ bg → Ex G G1 → Ex G1 H1 → IsRnI G1 (.ref T) y → (∀ G2 H2 z, St G1 H1 G2 H2 → S G2 z (g y) → N1 z H2) →
      gt (.ref T) (wipe σ vs) H1 fun σ2 H2 => wipe σ2 vs = wipe σ vs ∧ tt σ2 H2 fun b H3 => if b = true then te σ2 H3 N1 else N0 H3)
    (done : ∀ G1 H1 D, St G H G1 H1 → IsL S G1 (.ref D) (bg.map g) → Q (.ref D) H1) : tLockE (tLc (iItemsX P w td) gt tt te vs) σ H Q := by
  obtain ⟨xs, m, hx⟩ := m
  refine ⟨d, _, m.1, trivial, fun od => ?_⟩
  obtain ⟨s0, m0⟩ := chgF (o' := .frz od (dxO P w d xs)) m e
  refine hd _ _ ⟨d, od, xs, rfl, upd_same, fun D hD => ?_⟩
  have hl : xs.length = bg.length := hx.len
  refine lc_it (walk_itemsX (P := P) (w := w) (d := d) (o := od) (xs := xs)) (fun i H' => ∃ G' ys, St G (upd H d (.frz od (dxO P w d xs))) G' H' ∧ Mu G' H' D (.lst ys) ∧ Paired (S G') ys ((bg.take i).map g)) ?_ ?_ ?_ ?_
  · obtain ⟨s, m1⟩ := almF (o := .lst []) hD s0.i
    exact ⟨G, [], s, m1, .nil⟩
  · rintro i H' _ ⟨G', ys, s, _, _⟩
    exact (s.mu m0).1
  · rintro i x H1 H2 hi ⟨G', ys, s, mD, ps⟩ ⟨T, y, hy, rfl, hT, rfl⟩
    obtain ⟨z, hz1, hz2⟩ := paired_get hx hy
    have hmem : z ∈ bg := List.mem_of_getElem? hz1
    obtain ⟨s1, g1⟩ := alF (o := .tup [.ref y.2.1, y.2.2]) hT s.i
    have hT1 : IsRnI (upd G' T (.tup [.ref y.2.1, y.2.2])) (.ref T) z := ⟨T, _, _, rfl, g1, ⟨_, _, _, rfl, (s.trans s1).g _ _ hz2.2.2, rfl, rfl⟩, hz2.2.1⟩
    refine turn z T _ _ _ _ hmem (s.trans s1).g s1.i hT1 fun G2 H2 v s2 hv => ?_
    have m2 := s2.mu (s1.mu mD)
    refine ⟨ys, m2.1, ?_, ?_⟩
    · rw [paired_len ps, List.length_map, List.length_take]
      exact Nat.lt_of_le_of_lt (Nat.min_le_right _ _) hz
    · obtain ⟨s3, m3⟩ := chgF (o' := .lst (ys ++ [v])) m2 s2.i
      refine ⟨G2, ys ++ [v], Stm.fresh ((s.trans s1).trans s2) s3 (fun a q => by rw [List.mem_singleton.mp q]; exact hD), m3, ?_⟩
      rw [take_more hz1, List.map_append]
      exact paired_snoc hv (paired_imp (fun a b q => mS _ _ a b (s1.trans s2).g q) ps)
  · rintro H' ⟨G', ys, s, mD, ps⟩
    rw [hl, List.take_length] at ps
    have md := s.mu m0
    refine ⟨md.1, ?_⟩
    obtain ⟨s2, g2⟩ := freeze mD s.i
    have hne : d ≠ D := fun c => by rw [← c, upd_same] at hD; cases hD
    have md2 := s2.m _ _ (fun q => hne (List.mem_singleton.mp q)) md
    obtain ⟨s3, m3⟩ := chgF (o' := dxO P w d xs) md2 s2.i
    have sf : St G (upd H d (.frz od (dxO P w d xs))) (upd G' D (.lst ys)) H' := Stm.fresh s s2 fun a q => by rw [List.mem_singleton.mp q]; exact hD
    refine done _ _ D (Stm.close ((s0.trans (St.up sf)).trans s3) m m3) ⟨D, ys, rfl, g2, paired_imp (fun a b q => mS _ _ a b s2.g q) ps⟩
end
end G

/-! ## GKey -/
set_option Elab.async false
set_option linter.all false
set_option maxRecDepth 100000
namespace G
open PySem PySem.Spec PyProof.Rows L2
theorem lt65 {k : Nat} {A : Around} (hr : Room k A) : A.units + 65 < cLine := by have := hr.un; omega
def rSortKE (K : PySem.W.Frag) (f : Addr) (Good : (V → Int × Int) → Hp → V → Prop) : List V → List V → Hp → VK → Prop := fun vs zs H Q => ∃ key, rSortK K f (Good key) key vs zs H Q
theorem cr_sortKE {X : Cx} {K : PySem.W.Frag} {k : Nat} {f : Addr} {fd : FuncData} {ps : List Str} {Good : (V → Int × Int) → Hp → V → Prop} (F : ∀ key, FnOk X.prog X.w X.K X.mg X.base CX0 k f fd ps (SpKey (Good key) key)) (hb : Binds X.K fd ps []) (hr : Room (k + 2) X.A) (mg : ∀ key x H H', Ex H H' → Good key H x → Good key H' x) (hK : X.K = K) :
    CallRK X (.builtin "sorted") [Str.ofString "key"] (rSortKE K f Good) := by
  subst hK
  intro pins s σ H vs zs us ws Q I r rz ⟨key, h⟩
  exact cr_sortK (F key) hb hr (mg key) pins s σ H vs zs us ws Q I r rz h
def lexLe (a b : Int × Int) : Prop := a.1 < b.1 ∨ (a.1 = b.1 ∧ a.2 ≤ b.2)
def GoodR {α : Type} (R : Rp α) (kx : α → Int × Int) (key : V → Int × Int) (H : Hp) (v : V) : Prop := ∃ a, R H v a ∧ key v = kx a
theorem GoodR.mono {α : Type} {R : Rp α} {kx : α → Int × Int} (mR : Mono R) : ∀ key x H H', Ex H H' → GoodR R kx key H x → GoodR R kx key H' x := fun key x H H' e ⟨a, h, k⟩ => ⟨a, mR _ _ _ _ e h, k⟩
theorem lexB_le {a b : Int × Int} (h : SrtO.lexB b a = false) : lexLe a b := by
  have h' : ¬ (b.1 < a.1 ∨ (b.1 = a.1 ∧ b.2 < a.2)) := fun c => by rw [SrtO.lexB_iff.mpr c] at h; cases h
  unfold lexLe
  omega
theorem paired_map {α β : Type} {F : α → β → Prop} {f : α → β} : ∀ {xs : List α} {ys : List β}, Paired F xs ys → (∀ x y, F x y → f x = y) → ys = xs.map f
  | _, _, .nil, _ => rfl
  | _, _, .cons r t, h => by rw [List.map_cons, h _ _ r, ← paired_map t h]
theorem paired_self {α β : Type} {F : α → β → Prop} {f : α → β} : ∀ {xs : List α}, (∀ x ∈ xs, F x (f x)) → Paired F xs (xs.map f)
  | [], _ => .nil
  | x :: xs, h => .cons (h x (List.mem_cons_self ..)) (paired_self fun y hy => h y (List.mem_cons_of_mem _ hy))
theorem paired_all {α β : Type} {F : α → β → Prop} : ∀ {xs : List α} {ys : List β}, Paired F xs ys → ∀ x ∈ xs, ∃ y, F x y
  | _, _, .nil, x, h => by cases h
  | _, _, .cons r t, x, h => by
    rcases List.mem_cons.mp h with rfl | h
    · exact ⟨_, r⟩
    · exact paired_all t x h
open Classical in
theorem sortL {α : Type} [Inhabited α] {R : Rp α} {kx : α → Int × Int} {K : PySem.W.Frag} {f : Addr} {G H : Hp} {v : V} {xs : List α} {Q : VK} (mR : Mono R) (un : ∀ v a b, R G v a → R G v b → a = b) (hx : IsL R G v xs) (e : Ex G H)
    (h : ∀ G1 H1 p zs, St G H G1 H1 → zs.Perm xs → zs.Pairwise (fun x y => lexLe (kx x) (kx y)) → IsL R G1 (.ref p) zs → Q (.ref p) H1) : rSortKE K f (GoodR R kx) [v] [.ref f] H Q := by
  obtain ⟨p0, ws, rfl, hp, hr⟩ := hx
  let fv : V → α := fun v => if h : ∃ a, R G v a then h.choose else default
  have hfv : ∀ v a, R G v a → fv v = a := fun v a ha => by
    have hex : ∃ a, R G v a := ⟨a, ha⟩
    show (if h : ∃ a, R G v a then h.choose else default) = a
    rw [dif_pos hex]
    exact un v _ _ hex.choose_spec ha
  have exs : xs = ws.map fv := paired_map hr hfv
  have hall : ∀ x ∈ ws, R G x (fv x) := fun x hx => by
    obtain ⟨y, hy⟩ := paired_all hr x hx
    rw [hfv x y hy]; exact hy
  refine ⟨fun v => kx (fv v), p0, ws, rfl, rfl, sq (e _ _ hp), fun x hx => ⟨fv x, mR _ _ _ _ e (hall x hx), rfl⟩, fun ys H' p hperm hord hE hpn hpl => ?_⟩
  have s : St G H (upd G p (.lst ys)) H' := ⟨Ex.new (e.none hpn), fun a u q => by
    unfold upd at q
    split at q
    · rename_i c; cases q; rw [c]; exact hpl
    · exact hE _ _ (e _ _ q), fun q u _ m => ⟨hE _ _ m.1, by rw [upd_ne (ne_of_none m.1 hpn)]; exact m.2⟩⟩
  refine h _ _ p (ys.map fv) s ?_ ?_ ⟨p, ys, rfl, upd_same, ?_⟩
  · rw [exs]; exact hperm.map _
  · rw [List.pairwise_map]
    exact hord.imp fun {a b} q => lexB_le q
  · exact paired_self fun x hx => mR _ _ _ _ s.g (hall x (hperm.mem_iff.mp hx))
instance : Inhabited Blk := ⟨⟨0, 0, none, none⟩⟩
theorem optV_inj {a b : Option Int} (h : optV a = optV b) : a = b := by
  cases a <;> cases b <;> simp_all [optV]
theorem blkF_inj {a b : Blk} (h : blkF a = blkF b) : a = b := by
  have h1 := blkF_top a
  have h2 := blkF_left a
  have h3 := blkF_bottom a
  have h4 := blkF_right a
  rw [h] at h1 h2 h3 h4
  have e1 := V.int.inj (Option.some.inj ((blkF_top b).symm.trans h1))
  have e2 := V.int.inj (Option.some.inj ((blkF_left b).symm.trans h2))
  have e3 := optV_inj (Option.some.inj ((blkF_bottom b).symm.trans h3))
  have e4 := optV_inj (Option.some.inj ((blkF_right b).symm.trans h4))
  cases a
  cases b
  simp_all
theorem IsBlk.un {K : PySem.W.Frag} {G : Hp} (v : V) (a b : Blk) (h1 : IsBlk K G v a) (h2 : IsBlk K G v b) : a = b := by
  obtain ⟨p, dx, rfl, g1⟩ := h1
  obtain ⟨q, dy, e, g2⟩ := h2
  cases e
  rw [g1] at g2
  have := Option.some.inj g2
  injection this with _ _ e
  exact blkF_inj e
theorem sortBlk {K : PySem.W.Frag} {f : Addr} {G H : Hp} {v : V} {xs : List Blk} {Q : VK} (hx : IsL (IsBlk K) G v xs) (ap : apart xs = true) (e : Ex G H) (h : ∀ G1 H1 p, St G H G1 H1 → IsL (IsBlk K) G1 (.ref p) (sortB xs) → Q (.ref p) H1) :
    rSortKE K f (GoodR (IsBlk K) fun b => (b.t, b.l)) [v] [.ref f] H Q := by
  refine sortL IsBlk.mono IsBlk.un hx e fun G1 H1 p zs s hp ho hz => ?_
  rw [sort_unique hp (ho.imp fun {a b} q => (leB_iff a b).mpr q) ap] at hz
  exact h G1 H1 p s hz
end G

/-! ## GForm4 -/
set_option Elab.async false
set_option linter.all false
set_option maxRecDepth 100000
namespace G
open PySem PySem.Spec PyProof.Rows L2
theorem formSt_more {bs : List Band} {i : Nat} {b : Band} (h : bs[i]? = some b) : formSt (bs.take (i + 1)) = formStep (formSt (bs.take i)) b := by
  unfold formSt
  rw [take_more h, List.foldl_append]; rfl
theorem st_nd_go : ∀ (bs : List Band) (s : FS), kNd s.begun → kNd (bs.foldl formStep s).begun
  | [], _, h => h
  | b :: bs, s, h => st_nd_go bs _ (setds_nd _ (filter_nd h))
theorem st_nd (bs : List Band) : kNd (formSt bs).begun := st_nd_go bs _ List.nodup_nil
theorem found_go : ∀ (bs : List Band) (s : FS), ∀ x ∈ s.found, x ∈ (bs.foldl formStep s).found
  | [], _, _, h => h
  | b :: bs, s, x, h => found_go bs _ x (List.mem_append_left _ h)
theorem found_mem {bs : List Band} {i : Nat} {x : Blk} (h : x ∈ (formSt (bs.take i)).found) : x ∈ formRaw bs := by
  refine List.mem_append_left _ ?_
  have e : formSt bs = (bs.drop i).foldl formStep (formSt (bs.take i)) := by
    unfold formSt
    rw [← List.foldl_append, List.take_append_drop]
  rw [e]
  exact found_go _ _ x h
theorem setd_len (f : Int) (bg : Bg) (r : Rn) : bg.length ≤ (setd f bg r).length := by
  unfold setd
  split
  · exact Nat.le_refl _
  · rw [List.length_append]; exact Nat.le_add_right _ _
theorem setds_len (f : Int) : ∀ (rs : List Rn) (bg : Bg), bg.length ≤ (rs.foldl (setd f) bg).length
  | [], _ => Nat.le_refl _
  | r :: rs, bg => Nat.le_trans (setd_len f bg r) (setds_len f rs _)
theorem setds_part (f : Int) (rs : List Rn) (bg : Bg) (j : Nat) : ((rs.take j).foldl (setd f) bg).length ≤ (rs.foldl (setd f) bg).length := by
  have e : rs.foldl (setd f) bg = (rs.drop j).foldl (setd f) ((rs.take j).foldl (setd f) bg) := by
    rw [← List.foldl_append, List.take_append_drop]
  rw [e]
  exact setds_len f _ _
theorem part_len (p : Rn × Int → Bool) : ∀ bg : Bg, (bg.filter p).length + (bg.filter fun x => !p x).length = bg.length
  | [] => rfl
  | x :: bg => by
    have ih := part_len p bg
    rw [List.filter_cons, List.filter_cons]
    cases p x <;> simp <;> omega
theorem step_cnt (s : FS) (b : Band) : s.found.length + s.begun.length ≤ (formStep s b).found.length + (formStep s b).begun.length := by
  have h1 := part_len (gone s.behind b.1 b.2.2) s.begun
  have h2 := setds_len b.1 b.2.2 (s.begun.filter (keep s.behind b.1 b.2.2))
  have e : (s.begun.filter fun x => !gone s.behind b.1 b.2.2 x) = s.begun.filter (keep s.behind b.1 b.2.2) := rfl
  rw [e] at h1
  show _ ≤ (s.found ++ _).length + _
  rw [List.length_append, List.length_map]
  show _ ≤ _ + (b.2.2.foldl (setd b.1) (s.begun.filter (keep s.behind b.1 b.2.2))).length
  omega
theorem cnt_go : ∀ (bs : List Band) (s : FS), s.found.length + s.begun.length ≤ (bs.foldl formStep s).found.length + (bs.foldl formStep s).begun.length
  | [], _ => Nat.le_refl _
  | b :: bs, s => Nat.le_trans (step_cnt s b) (cnt_go bs _)
theorem cnt (bs : List Band) (i : Nat) : (formSt (bs.take i)).found.length + (formSt (bs.take i)).begun.length ≤ (formRaw bs).length := by
  have e : formSt bs = (bs.drop i).foldl formStep (formSt (bs.take i)) := by
    unfold formSt
    rw [← List.foldl_append, List.take_append_drop]
  unfold formRaw
  rw [List.length_append, List.length_map, e]
  exact cnt_go _ _
theorem behind_some {bs : List Band} {i : Nat} (h : chained bs = true) (hi : i < bs.length) : ∃ z, (formSt (bs.take i)).behind = some z := by
  cases i with
  | zero => exact ⟨0, rfl⟩
  | succ j =>
    have hj : j < bs.length := by omega
    have hg : bs[j]? = some bs[j] := List.getElem?_eq_getElem hj
    rw [formSt_more hg]
    show ∃ z, (bs[j]).2.1 = some z
    unfold chained at h
    have hm : bs[j] ∈ bs.dropLast := by
      refine List.mem_of_getElem? (i := j) ?_
      rw [List.getElem?_dropLast, if_pos (by omega), hg]
    have := List.all_eq_true.mp h _ hm
    exact Option.isSome_iff_exists.mp this
theorem extL {α : Type} {R : Rp α} {G H : Hp} {l : Addr} {xs : List V} {v : V} {ys : List α} {Q : VK} (m : Mu G H l (.lst xs)) (hy : IsL R G v ys) (e : Ex G H) (hz : xs.length + ys.length ≤ sizeLine) (h : ∀ H1 ws, Stm [l] G H G H1 → Mu G H1 l (.lst (xs ++ ws)) → Paired (R G) ws ys → Q .non H1) : rExtend (.ref l) [v] H Q := by
  obtain ⟨p, ws, rfl, hp, hr⟩ := hy
  obtain ⟨s, m'⟩ := chgF (o' := .lst (xs ++ ws)) m e
  exact ⟨l, p, xs, ws, rfl, rfl, m.1, e _ _ hp, by rw [paired_len hr]; exact hz, h _ ws s m' hr⟩
theorem x_ckw {r : List V → List V → Hp → VK → Prop} {t tk : TA} {σ : L2.St} {H : Hp} {Q : VK} (h : t σ H fun vs H1 => tk σ H1 fun zs H2 => r vs zs H2 Q) : tCKw r t tk σ H Q := h
theorem orP {t u : TT} {σ : L2.St} {H : Hp} {R : Bool → Hp → Prop} {a b : Bool} (ht : ∀ R : Bool → Hp → Prop, R a H → t σ H R) (hu : ∀ R : Bool → Hp → Prop, R b H → u σ H R) (h : R (a || b) H) : tOr t u σ H R := by
  refine x_or (ht _ ?_)
  cases a
  · exact ite_F rfl (hu _ h)
  · exact ite_T rfl h
theorem gone_take {bg : Bg} {p : Rn × Int → Bool} {j : Nat} {x : Rn × Int} (h : bg[j]? = some x) : (bg.take (j + 1)).filter p = (bg.take j).filter p ++ (if p x = true then [x] else []) := by
  rw [take_more h, List.filter_append]
  cases c : p x <;> simp [c]
theorem x_gtup3 {α β γ : Type} {K : PySem.W.Frag} {R : Rp α} {S : Rp β} {T : Rp γ} {G H : Hp} {v : V} {z : α × β × γ} {i j k : Nat} {σ : L2.St} {Q : L2.St → Hp → Prop} (hx : IsT3 R S T G v z) (e : Ex G H) (h : ∀ x y u, R G x z.1 → S G y z.2.1 → T G u z.2.2 → Q (((σ.set i (some x)).set j (some y)).set k (some u)) H) :
    gTup K 3 (gCons (gName i) (gCons (gName j) (gCons (gName k) gNil))) v σ H Q := by
  obtain ⟨p, x, y, u, rfl, hp, hr, hs, ht⟩ := hx
  exact ⟨p, [x, y, u], rfl, sqt (e _ _ hp), rfl, x, [y, u], rfl, y, [u], rfl, u, [], rfl, rfl, h x y u hr hs ht⟩
end G

/-! ## GRaise -/
set_option Elab.async false
set_option linter.all false
set_option maxRecDepth 100000
namespace G
open PySem PySem.Spec PyProof.Rows L2
theorem Stm.mu {G H G' H' : Hp} {q : Addr} {u : HO} (s : Stm [] G H G' H') (h : Mu G H q u) : Mu G' H' q u := s.m q u (fun z => nomatch z) h
theorem passE {X : Cx} {E : XK} (tk : L2N.Takes X (fun cls d _ H => E cls d H)) : Passes (L2N.CX X.prog X.w) X E := fun pins σ H s e s' I c => L2N.passAt tk σ pins H s e s' I c
theorem passN {X : Cx} : Passes (L2N.CX X.prog X.w) X E0 := fun _ _ _ _ _ _ _ h => by
  obtain ⟨_, _, _, _, _, _, _, _, _, _, _, _, z⟩ := h
  exact z.elim
theorem takesN0 {X : Cx} : L2N.Takes X (fun _ _ _ _ => False) := fun _ _ x => by
  obtain ⟨_, _, _, _, _, _, _, _, _, _, _, _, _, _, _, _, z⟩ := x
  exact z.elim
theorem isiG {K : PySem.W.Frag} {H : Hp} {x c : V} {t u : Value} {b : Bool} {Q : VK} (k : ClsV c u) (ty : TyX K H x t) (h : PySem.W.kitOne K t u = some b) (q : Q (.bl b) H) : rIsi K [x, c] H Q := ⟨x, c, t, u, b, rfl, k, ty, h, q⟩
theorem tyL {K : PySem.W.Frag} {H : Hp} {p : Addr} {xs : List V} (h : H p = some (.lst xs)) : TyX K H (.ref p) (.type "list") := .base (.lst h)
theorem IsL.ty {α : Type} {K : PySem.W.Frag} {R : Rp α} {G H : Hp} {v : V} {xs : List α} (h : IsL R G v xs) (e : Ex G H) : TyX K H v (.type "list") := by
  obtain ⟨p, ws, rfl, hp, _⟩ := h
  exact tyL (e _ _ hp)
end G

/-! ## GTup -/
set_option Elab.async false
set_option linter.all false
set_option maxRecDepth 100000
namespace G
open PySem PySem.Spec PyProof.Rows L2
/-- [.. for x in t], t a tuple of any values -/
def LcGoT (K : PySem.W.Frag) (v : V) (gt : TG) (tt : TT) (te : TE) (vs : List Nat) (σ : L2.St) (H1 : Hp) (Q : VK) : Prop :=
  ∃ a, v = .ref a ∧ (∃ xs, SqT K H1 a xs) ∧ ∀ D, H1 D = none → ∃ W : Nat → Nat → Hp → Prop, (∃ m, W 0 m (upd H1 D (.lst []))) ∧ ∀ i m H, W i m H →
  ((Itt K a).stop i H ∧ Q (.ref D) H) ∨ ((Itt K a).go i H ∧ ∃ Nx : Hp → Prop, (∀ H', Nx H' → ∃ m', m' < m ∧ W (i + 1) m' H') ∧ ∀ x H', (Itt K a).yld i H x H' → gt x (wipe σ vs) H' fun σ2 H2 => wipe σ2 vs = wipe σ vs ∧ tt σ2 H2 fun b H3 =>
    if b = true then te σ2 H3 fun y H4 => ∃ acc, H4 D = some (.lst acc) ∧ acc.length < sizeLine ∧ Nx (upd H4 D (.lst (acc ++ [y]))) else Nx H3)
theorem x_lcT {K : PySem.W.Frag} {tl te : TE} {gt : TG} {tt : TT} {vs : List Nat} {σ : L2.St} {H : Hp} {Q : VK} (h : tl σ H fun v H1 => LcGoT K v gt tt te vs σ H1 Q) : tLc (iTup K tl) gt tt te vs σ H Q := h
theorem lcT {β : Type} {K : PySem.W.Frag} {S : Rp β} (mS : Mono S) {G H : Hp} {p : Addr} {xs : List V} {gt : TG} {tt : TT} {te : TE} {vs : List Nat} {σ : L2.St} {Q : VK} (f : V → Bool) (g : V → β)
    (e : Ex G H) (hp : G p = some (.tup xs)) (hz : xs.length < sizeLine)
    (turn : ∀ (x : V) (G1 H1 : Hp) (N0 : Hp → Prop) (N1 : VK), x ∈ xs → St G H G1 H1 → (∀ G2 H2, St G1 H1 G2 H2 → f x = false → N0 H2) → (∀ G2 H2 y, St G1 H1 G2 H2 → S G2 y (g x) → f x = true → N1 y H2) →
      gt x (wipe σ vs) H1 fun σ2 H2 => wipe σ2 vs = wipe σ vs ∧ tt σ2 H2 fun b H3 => if b = true then te σ2 H3 N1 else N0 H3)
    (done : ∀ G1 H1 D, St G H G1 H1 → IsL S G1 (.ref D) ((xs.filter f).map g) → Q (.ref D) H1) : LcGoT K (.ref p) gt tt te vs σ H Q := by
  refine ⟨p, rfl, ⟨xs, sqt (e _ _ hp)⟩, fun D hD => ?_⟩
  refine lc_it (walk_tup (K := K) (a := p) (xs := xs)) (fun i H' => ∃ G' ys, St G H G' H' ∧ Mu G' H' D (.lst ys) ∧ Paired (S G') ys (((xs.take i).filter f).map g)) ?_ ?_ ?_ ?_
  · obtain ⟨s, m⟩ := almF (o := .lst []) hD e
    exact ⟨G, [], s, m, .nil⟩
  · rintro i H' _ ⟨G', ys, s, _, _⟩
    exact sqt (s.i _ _ (s.g _ _ hp))
  · rintro i x H1 H' hi ⟨G', ys, s, m, ps⟩ ⟨rfl, hxi⟩
    have hmem : x ∈ xs := List.mem_of_getElem? hxi
    have hfl : (((xs.take i).filter f).map g).length < sizeLine := by
      refine Nat.lt_of_le_of_lt ?_ hz
      rw [List.length_map]
      refine Nat.le_trans (List.length_filter_le _ _) ?_
      rw [List.length_take]; exact Nat.min_le_right _ _
    refine turn x G' H' _ _ hmem s (fun G2 H2 s2 hf => ?_) (fun G2 H2 y s2 hy hf => ?_)
    · refine ⟨G2, ys, s.trans s2, s2.mu m, ?_⟩
      rw [take_more hxi, List.filter_append, List.map_append]
      have : List.filter f [x] = [] := by simp [hf]
      rw [this, List.map_nil, List.append_nil]
      exact paired_imp (fun a b q => mS _ _ a b s2.g q) ps
    · have m2 := s2.mu m
      refine ⟨ys, m2.1, ?_, ?_⟩
      · rw [paired_len ps]; exact hfl
      · obtain ⟨s3, m3⟩ := chgF (o' := .lst (ys ++ [y])) m2 s2.i
        refine ⟨G2, ys ++ [y], Stm.fresh (s.trans s2) s3 (fun a z => by rw [List.mem_singleton.mp z]; exact hD), m3, ?_⟩
        rw [take_more hxi, List.filter_append, List.map_append]
        have : List.filter f [x] = [x] := by simp [hf]
        rw [this]
        exact paired_snoc hy (paired_imp (fun a b q => mS _ _ a b s2.g q) ps)
  · rintro H' ⟨G', ys, s, m, ps⟩
    rw [List.take_length] at ps
    obtain ⟨s2, g2⟩ := freeze m s.i
    exact done (upd G' D (.lst ys)) H' D (Stm.fresh s s2 (fun a z => by rw [List.mem_singleton.mp z]; exact hD)) ⟨D, ys, rfl, g2, paired_imp (fun a b q => mS _ _ a b s2.g q) ps⟩
theorem lenT {K : PySem.W.Frag} {H : Hp} {p : Addr} {xs : List V} {Q : VK} (hp : H p = some (.tup xs)) (h : Q (.int (xs.length : Nat)) H) : rLenL K [.ref p] H Q := ⟨p, xs, rfl, .inr (sqt hp), h⟩
theorem tyT {K : PySem.W.Frag} {H : Hp} {p : Addr} {xs : List V} (h : H p = some (.tup xs)) : TyX K H (.ref p) (.type "tuple") := .base (.tup h)
/-- a copy of a list -/
def ListGo (K : PySem.W.Frag) (vs : List V) (H : Hp) (Q : VK) : Prop := ∃ p xs, vs = [.ref p] ∧ (SqL K H p xs ∨ SqT K H p xs) ∧ ∀ q, H q = none → Q (.ref q) (upd H q (.lst xs))
theorem listK {X : Cx} {K : PySem.W.Frag} (hK : X.K = K) : CallR X (.type "list") (ListGo K) := by subst hK; exact call_list_of
theorem listG {α : Type} {K : PySem.W.Frag} {R : Rp α} (mR : Mono R) {G H : Hp} {v : V} {xs : List α} {Q : VK} (hx : IsL R G v xs) (e : Ex G H) (h : ∀ G1 H1 p, St G H G1 H1 → IsL R G1 (.ref p) xs → Q (.ref p) H1) : ListGo K [v] H Q := by
  obtain ⟨p, ws, rfl, hp, hr⟩ := hx
  refine ⟨p, ws, rfl, .inl (sq (e _ _ hp)), fun q hq => ?_⟩
  obtain ⟨s, g⟩ := alF (o := .lst ws) hq e
  exact h _ _ q s ⟨q, ws, rfl, g, paired_imp (fun a b z => mR _ _ a b s.g z) hr⟩
end G

/-! ## GSheet -/
set_option Elab.async false
set_option linter.all false
set_option maxRecDepth 100000
namespace G
open PySem PySem.Spec PyProof.Rows L2
abbrev Hs := List (Str × List Blk)
/-- the dict of values, each with its area -/
def HD (K : PySem.W.Frag) (G : Hp) (kvs : List (Key × V)) (hs : Hs) : Prop := Paired (fun kv h => kv.1 = Sum.inr h.1 ∧ IsAr K G kv.2 h.2) kvs hs
def getH (hs : Hs) (s : Str) : Option (List Blk) := (hs.find? fun h => decide (h.1 = s)).map (·.2)
def putH (hs : Hs) (s : Str) (a : List Blk) : Hs := if (hs.any fun h => decide (h.1 = s)) = true then hs.map (fun h => if h.1 = s then (h.1, a) else h) else hs ++ [(s, a)]
section
variable {K : PySem.W.Frag} {G H : Hp} {kvs : List (Key × V)} {hs : Hs}
theorem HD.mono {G' : Hp} (h : HD K G kvs hs) (e : Ex G G') : HD K G' kvs hs := paired_imp (fun a b q => ⟨q.1, IsAr.mono _ _ _ _ e q.2⟩) h
theorem HD.len (h : HD K G kvs hs) : kvs.length = hs.length := paired_len h
theorem HD.val (s : Str) : ∀ {kvs : List (Key × V)} {hs : Hs}, HD K G kvs hs → (∃ v a, valV kvs (Sum.inr s) = some v ∧ getH hs s = some a ∧ IsAr K G v a) ∨ (valV kvs (Sum.inr s) = none ∧ getH hs s = none)
  | _, _, .nil => .inr ⟨rfl, rfl⟩
  | kv :: kvs, h :: hs, .cons q t => by
    by_cases c : h.1 = s
    · refine .inl ⟨kv.2, h.2, valV_pos (by rw [q.1, c]), ?_, q.2⟩
      unfold getH
      rw [List.find?_cons, decide_eq_true c]; rfl
    · have e1 : valV (kv :: kvs) (Sum.inr s) = valV kvs (Sum.inr s) := valV_neg (by rw [q.1]; exact fun z => c (Sum.inr.inj z))
      rw [e1]
      have e2 : ∀ r, getH (h :: r) s = getH r s := fun r => by unfold getH; rw [List.find?_cons, decide_eq_false c]
      rw [e2]
      exact HD.val s t
theorem HD.any (s : Str) : ∀ {kvs : List (Key × V)} {hs : Hs}, HD K G kvs hs → (kvs.any fun kv => decide (kv.1 = Sum.inr s)) = hs.any fun h => decide (h.1 = s)
  | _, _, .nil => rfl
  | _, _, .cons (a := kv) (b := h) q t => by
    rw [List.any_cons, List.any_cons, HD.any s t, q.1]
    congr 1
    by_cases c : h.1 = s
    · rw [decide_eq_true c, decide_eq_true (by rw [c])]
    · rw [decide_eq_false c, decide_eq_false fun z => c (Sum.inr.inj z)]
theorem HD.put {s : Str} {v : V} {a : List Blk} (h : HD K G kvs hs) (ha : IsAr K G v a) : HD K G (putK kvs (Sum.inr s) v) (putH hs s a) := by
  unfold putK putH
  rw [h.any s]
  split
  · rename_i c0
    clear c0
    induction h with
    | nil => exact .nil
    | @cons kv hh _ _ q t ih =>
      refine .cons ?_ ih
      by_cases c : hh.1 = s
      · have c1 : kv.1 = Sum.inr s := by rw [q.1, c]
        dsimp only
        rw [if_pos c1, if_pos c]; exact ⟨q.1, ha⟩
      · have c1 : ¬ kv.1 = Sum.inr s := by rw [q.1]; exact fun z => c (Sum.inr.inj z)
        dsimp only
        rw [if_neg c1, if_neg c]; exact q
  · exact paired_snoc ⟨rfl, ha⟩ h
theorem putK_new {kvs : List (Key × V)} {k : Key} {v : V} (h : (kvs.any fun kv => decide (kv.1 = k)) = false) : putK kvs k v = kvs ++ [(k, v)] := by
  unfold putK; rw [if_neg (by rw [h]; exact Bool.false_ne_true)]
theorem putH_len (hs : Hs) (s : Str) (a : List Blk) : (putH hs s a).length ≤ hs.length + 1 := by
  unfold putH
  split
  · rw [List.length_map]; omega
  · simp
end
/-! ### loops over it -/
section
variable {K : PySem.W.Frag} {σ : L2.St} {G H : Hp} {Q : VK} {D : Ends} {d : Addr} {kvs : List (Key × V)} {hs : Hs}
theorem forI {td : TE} {gt : TG} {tb : TS} (hd : ∀ (H' : Hp) (R : VK), (∀ a, a ≠ d → H' a = H a) → R (.ref d) H' → td σ H' R) (m : Mu G H d (.dK kvs)) (hx : HD K G kvs hs) (e : Ex G H) (Pv : Obj → Nat → L2.St → Hp → Hp → Prop)
    (h0 : ∀ od H1, Stm [d] G H G H1 → Mu G H1 d (.frz od (.dK kvs)) → Pv od 0 σ G H1)
    (hst : ∀ od i σ' G' H', i ≤ hs.length → Pv od i σ' G' H' → Ex G G' ∧ Ex G' H' ∧ Mu G' H' d (.frz od (.dK kvs)))
    (turn : ∀ od i x w T σ1 G1 H1 G2 H2 (D2 : Ends), hs[i]? = some x → kvs[i]? = some (Sum.inr x.1, w) → Pv od i σ1 G1 H1 → St G1 H1 G2 H2 → IsAr K G2 w x.2 → G2 T = some (.tup [.str x.1, w]) → (∀ σ' G' H', Pv od (i + 1) σ' G' H' → D2.nx σ' H') → gt (.ref T) σ1 H2 fun σ2 H3 => tb D2 σ2 H3)
    (done : ∀ od σ' G' H' H2, Pv od hs.length σ' G' H' → Stm [d] G' H' G' H2 → Mu G' H2 d (.dK kvs) → D.nx σ' H2) : tLock (tFor (iItems td) gt tb) D σ H := by
  refine ⟨d, _, m.1, trivial, fun od => ?_⟩
  obtain ⟨s0, m0⟩ := chgF (o' := .frz od (.dK kvs)) m e
  refine hd _ _ (fun a n => upd_ne n) ⟨d, od, kvs, rfl, upd_same, ?_⟩
  have hl : kvs.length = hs.length := hx.len
  refine for_it (walk_items (d := d) (o := od) (kvs := kvs)) (fun i σ' H' => ∃ G', Pv od i σ' G' H') ⟨G, h0 od _ s0 m0⟩ (fun i σ' H' hi ⟨G', h⟩ => ?_) (fun i x σ' H1 H2 hi ⟨G', h⟩ ⟨T, x1, x2, e1, hT, e2, e3, e4⟩ => ?_) (fun σ' H' ⟨G', h⟩ => ?_)
  · exact (hst od i σ' G' H' (by omega) h).2.2.1
  · subst e1 e2
    obtain ⟨q1, q2, q3⟩ := hst od i σ' G' H1 (by omega) h
    have hki : kvs[i]? = some kvs[i] := List.getElem?_eq_getElem hi
    have e3 : (kvs[i]?).map (fun kv => kV kv.1) = some x1 := e3
    have e4 : (kvs[i]?).map Prod.snd = some x2 := e4
    rw [hki] at e3 e4
    cases e3
    cases e4
    obtain ⟨y, hy, ry⟩ := paired_get hx hki
    obtain ⟨s, ht⟩ := alF (o := .tup [kV kvs[i].1, kvs[i].2]) hT q2
    have ek : kvs[i].1 = Sum.inr y.1 := ry.1
    have ht' : upd G' T (.tup [kV kvs[i].1, kvs[i].2]) T = some (.tup [.str y.1, kvs[i].2]) := by rw [ht, ek]; rfl
    refine turn od i y kvs[i].2 T σ' G' H1 _ _ _ hy (by rw [hki, ← ek]) h s (IsAr.mono _ _ _ _ (q1.trans s.g) ry.2) ht' fun σ2 G2 H2 q => ⟨G2, q⟩
  · rw [hl] at h
    obtain ⟨q1, q2, q3⟩ := hst od _ σ' G' H' (Nat.le_refl _) h
    obtain ⟨s3, m3⟩ := chgF (o' := .dK kvs) q3 q2
    exact ⟨q3.1, done od σ' G' H' _ h s3 m3⟩
theorem lcI {β : Type} {S : Rp β} (mS : Mono S) {td te : TE} {gt : TG} {tt : TT} {vs : List Nat} (hd : ∀ (H' : Hp) (R : VK), (∀ a, a ≠ d → H' a = H a) → R (.ref d) H' → td σ H' R) (m : Mu G H d (.dK kvs)) (hx : HD K G kvs hs) (e : Ex G H) (hz : hs.length < sizeLine) (f : Str × List Blk → Bool) (g : Str × List Blk → β)
    (turn : ∀ (x : Str × List Blk) (w : V) (T : Addr) (G1 H1 : Hp) (N0 : Hp → Prop) (N1 : VK), x ∈ hs → Ex G G1 → Ex G1 H1 → IsAr K G1 w x.2 → G1 T = some (.tup [.str x.1, w]) → (∀ G2 H2, St G1 H1 G2 H2 → f x = false → N0 H2) → (∀ G2 H2 z, St G1 H1 G2 H2 → S G2 z (g x) → f x = true → N1 z H2) →
      gt (.ref T) (wipe σ vs) H1 fun σ2 H2 => wipe σ2 vs = wipe σ vs ∧ tt σ2 H2 fun b H3 => if b = true then te σ2 H3 N1 else N0 H3)
    (done : ∀ G1 H1 D, St G H G1 H1 → IsL S G1 (.ref D) ((hs.filter f).map g) → Q (.ref D) H1) : tLockE (tLc (iItems td) gt tt te vs) σ H Q := by
  refine ⟨d, _, m.1, trivial, fun od => ?_⟩
  obtain ⟨s0, m0⟩ := chgF (o' := .frz od (.dK kvs)) m e
  refine hd _ _ (fun a n => upd_ne n) ⟨d, od, kvs, rfl, upd_same, fun D hD => ?_⟩
  have hl : kvs.length = hs.length := hx.len
  refine lc_it (walk_items (d := d) (o := od) (kvs := kvs)) (fun i H' => ∃ G' ys, St G (upd H d (.frz od (.dK kvs))) G' H' ∧ Mu G' H' D (.lst ys) ∧ Paired (S G') ys (((hs.take i).filter f).map g)) ?_ ?_ ?_ ?_
  · obtain ⟨s, m1⟩ := almF (o := .lst []) hD s0.i
    exact ⟨G, [], s, m1, .nil⟩
  · rintro i H' _ ⟨G', ys, s, _, _⟩
    exact (s.mu m0).1
  · rintro i x H1 H2 hi ⟨G', ys, s, mD, ps⟩ ⟨T, x1, x2, e1, hT, e2, e3, e4⟩
    subst e1 e2
    have hki : kvs[i]? = some kvs[i] := List.getElem?_eq_getElem hi
    have e3 : (kvs[i]?).map (fun kv => kV kv.1) = some x1 := e3
    have e4 : (kvs[i]?).map Prod.snd = some x2 := e4
    rw [hki] at e3 e4
    cases e3
    cases e4
    obtain ⟨y, hy, ry⟩ := paired_get hx hki
    have hmem : y ∈ hs := List.mem_of_getElem? hy
    obtain ⟨s1, ht⟩ := alF (o := .tup [kV kvs[i].1, kvs[i].2]) hT s.i
    have ek : kvs[i].1 = Sum.inr y.1 := ry.1
    have ht' : upd G' T (.tup [kV kvs[i].1, kvs[i].2]) T = some (.tup [.str y.1, kvs[i].2]) := by rw [ht, ek]; rfl
    have hfl : (((hs.take i).filter f).map g).length < sizeLine := by
      refine Nat.lt_of_le_of_lt ?_ hz
      rw [List.length_map]
      refine Nat.le_trans (List.length_filter_le _ _) ?_
      rw [List.length_take]; exact Nat.min_le_right _ _
    refine turn y kvs[i].2 T _ _ _ _ hmem (s.trans s1).g s1.i (IsAr.mono _ _ _ _ (s.trans s1).g ry.2) ht' (fun G2 H2 s2 hf => ?_) (fun G2 H2 v s2 hv hf => ?_)
    · refine ⟨G2, ys, (s.trans s1).trans s2, s2.mu (s1.mu mD), ?_⟩
      rw [take_more hy, List.filter_append, List.map_append]
      have : List.filter f [y] = [] := by simp [hf]
      rw [this, List.map_nil, List.append_nil]
      exact paired_imp (fun a b q => mS _ _ a b (s1.trans s2).g q) ps
    · have m2 := s2.mu (s1.mu mD)
      refine ⟨ys, m2.1, ?_, ?_⟩
      · rw [paired_len ps]; exact hfl
      · obtain ⟨s3, m3⟩ := chgF (o' := .lst (ys ++ [v])) m2 s2.i
        refine ⟨G2, ys ++ [v], Stm.fresh ((s.trans s1).trans s2) s3 (fun a q => by rw [List.mem_singleton.mp q]; exact hD), m3, ?_⟩
        rw [take_more hy, List.filter_append, List.map_append]
        have : List.filter f [y] = [y] := by simp [hf]
        rw [this]
        exact paired_snoc hv (paired_imp (fun a b q => mS _ _ a b (s1.trans s2).g q) ps)
  · rintro H' ⟨G', ys, s, mD, ps⟩
    rw [hl, List.take_length] at ps
    have md := s.mu m0
    refine ⟨md.1, ?_⟩
    obtain ⟨s2, g2⟩ := freeze mD s.i
    have hne : d ≠ D := fun c => by rw [← c, upd_same] at hD; cases hD
    have md2 := s2.m _ _ (fun q => hne (List.mem_singleton.mp q)) md
    obtain ⟨s3, m3⟩ := chgF (o' := .dK kvs) md2 s2.i
    have sf : St G (upd H d (.frz od (.dK kvs))) (upd G' D (.lst ys)) H' := Stm.fresh s s2 fun a q => by rw [List.mem_singleton.mp q]; exact hD
    exact done _ _ D (Stm.close ((s0.trans (St.up sf)).trans s3) m m3) ⟨D, ys, rfl, g2, paired_imp (fun a b q => mS _ _ a b s2.g q) ps⟩
/-! ### a sheet -/
def shF (d : Addr) : List (Str × V) := putF "held" (.ref d) []
theorem shF_held (d : Addr) : (shF d).lookup ("held" : Str) = some (.ref d) := by unfold shF; rw [lookup_putF, if_pos rfl]
theorem shF_no (d : Addr) {m : Str} (h : ¬ m = "held") : (shF d).lookup m = none := by unfold shF; rw [lookup_putF, if_neg h]; rfl
/-- a sheet: its object and its dict may change -/
structure MuS (K : PySem.W.Frag) (G H : Hp) (p d : Addr) (kvs : List (Key × V)) : Prop where
  o : ∃ dx, Mu G H p (.ins (He.ga K "Sheet") dx (shF d))
  d : Mu G H d (.dK kvs)
theorem MuS.st {p : Addr} {G1 H1 : Hp} (m : MuS K G H p d kvs) (s : St G H G1 H1) : MuS K G1 H1 p d kvs := ⟨let ⟨dx, h⟩ := m.o; ⟨dx, s.mu h⟩, s.mu m.d⟩
theorem MuS.to {p : Addr} {G1 H1 : Hp} {A : List Addr} (m : MuS K G H p d kvs) (s : Stm A G H G1 H1) (n1 : p ∉ A) (n2 : d ∉ A) : MuS K G1 H1 p d kvs := ⟨let ⟨dx, h⟩ := m.o; ⟨dx, s.m _ _ n1 h⟩, s.m _ _ n2 m.d⟩
theorem MuS.ne {p : Addr} (m : MuS K G H p d kvs) : p ≠ d := fun c => by
  obtain ⟨dx, h⟩ := m.o
  have h1 := h.1
  rw [c, m.d.1] at h1
  cases h1
end
end G

/-! ## GOwn -/
set_option Elab.async false
set_option linter.all false
set_option maxRecDepth 100000
namespace G
open PySem PySem.Spec PyProof.Rows L2
/-- an own def is called by the machine -/
theorem own_call {X : Cx} {CX : CXT} {k : Nat} {f : Addr} {fd : FuncData} {ps : List Str} {sp : Sp} {E : XK} {pins : List (Addr × Obj)} {σ : L2.St} {H : Hp} {s : Shared} {Q : VK} {us : List Value} {vs : List V} {A : Around}
    (F : FnOk X.prog X.w X.K X.mg X.base CX k f fd ps sp) (hb : Binds X.K fd ps []) (hx : Passes CX X E) (sb : L2.Sub X k A) (I : Inv X pins σ H s) (r : Vals vs us) (h : sp vs H Q E) : wpAny (model X.prog X.w) A (call (.ref f) us) (EP X pins σ Q) X.xe s := by
  have e0 : Env0 X.prog X.w X.K X.mg X.base A X.stack s H := by
    have e := I.env0
    exact ⟨by rw [sb.fr]; exact e.frames, e.mod, e.bs, e.bsz, e.funs, e.frf, e.hok, e.bare⟩
  have hl := F.len _ _ _ _ h
  refine wpAny_call (codeAny_mono (F.run A X.stack s H ⟨us, []⟩ us vs _ E sb.room e0 (by
    have := hb s us I.kIn (by simpa using (r.length.symm.trans hl))
    simpa using this) r h) fun r s' hq => ?_)
  cases r with
  | error e => exact hx pins σ H s e s' I hq
  | ok fl =>
    cases fl with
    | ret w => exact I.after hq
    | next => exact False.elim hq
    | brk => exact False.elim hq
    | cont => exact False.elim hq
/-! ### len(o) by an own __len__ -/
def rLenO (C : Addr) (sp : Sp) : List V → Hp → VK → Prop := fun xs H Q => ∃ a dx fs, xs = [.ref a] ∧ H a = some (.ins C dx fs) ∧ sp [.ref a] H (fun v H' => ∃ n : Nat, v = .int n ∧ n < 2 ^ 62 ∧ Q (.int n) H') E0
theorem lenO {X : Cx} {CX : CXT} {k : Nat} {C f : Addr} {fd : FuncData} {ps : List Str} {sp : Sp} (F : FnOk X.prog X.w X.K X.mg X.base CX k f fd ps sp) (hr : Room (k + 1) X.A) (hm : Meth X.K C "__len__" f) (hb : Binds X.K fd ps []) (hx : Passes CX X E0) : CallR X (.builtin "len") (rLenO C sp) := by
  intro pins s σ H xs us Q I r h
  obtain ⟨a, dx, fs, rfl, ha, hsp⟩ := h
  obtain ⟨u, rfl, ru⟩ := vals1 r
  obtain rfl : u = Value.ref a := ru
  obtain ⟨mA, J, _⟩ := ins_get I.hok ha
  obtain ⟨od, J, _⟩ := J.look
  obtain ⟨m, hF⟩ := I.fr
  refine PySem.W.len_K hF I.ok.mod.kin J hm.at_ hm.fn ?_
  have r2 : Vals [V.ref a] [Value.ref a] := .cons rfl .nil
  refine wpAny_mono (own_call F hb hx ⟨hr.in1, rfl⟩ I r2 hsp) (fun v s' hq => ?_) fun _ _ z => z
  obtain ⟨z, H', I', rz, n, rfl, hn, q⟩ := hq
  obtain ⟨t, rfl⟩ := rz
  exact ⟨⟨by omega, by omega⟩, .int n, H', I'.tok _, ⟨_, rfl⟩, q⟩
/-! ### x != y by an own __eq__ -/
section
variable {prog : Program} {w : World} {A : Around} {E : Value → Shared → Prop} {s : Shared} {K : PySem.W.Frag} {x C L f : Addr} {h₀ : Heap} {m : Str → Option Value} {ox : Obj} {od : Option Obj} {b tb : Value}
open PySem.W in
theorem ifBound_B {M : Model} {name : Str} {id T : String} {args : List Value} {Q : Option Value → Shared → Prop} (X : K.In s.heap) (I : InstAt s.heap x ox C od) (hs : findIn K (.ref C) name = some (some (.builtin id))) (S : Slot T name id)
    (h : wpAny M A (call (.builtin id) (.ref x :: args)) (fun v => Q (some v)) E s) : wpAny M A (callSpecialIfBound? (.ref x) name args) Q E s := by
  simp only [callSpecialIfBound?, bindSpecialIfBound?]
  refine wpAny_holding (wpAny_bind (wpAny_bind (wpAny_bind (I.type.here ((looks_findIn X hs).here ?_)))))
  simp only [S.bind]
  refine wpAny_bind (wpAny_askSetting (wpAny_ite ?_))
  have fin : wpAny M A (call (.builtin id) ([.ref x] ++ args) >>= fun v => pure (some v)) Q E s := wpAny_bind (wpAny_mono h (fun v s' h' => wpAny_pure h') fun _ _ h' => h')
  split
  · exact wpAny_bind (wpAny_pure (wpAny_pure fin))
  · exact wpAny_tryCatch (wpAny_bind (wpAny_pure (wpAny_pure fin)))
open PySem.W in
theorem ne_entry {Q : Fin → Shared → Prop} (hu : A.units < cLine) (X : K.In s.heap) (I : InstAt s.heap x ox C od) (he : findIn K (.ref C) "__eq__" = some (some (.ref f))) (hf : isFn K (.ref f) = true)
    (h : wpAny (model prog w) A (call (.ref f) [.ref x, b]) (fun v s' => ∃ c, v = .bool c ∧ Q (.done (.ret (.bool (!c)))) s') E s) : wpAny (model prog w) A (Builtin.«object.__ne__» ⟨[.ref x, b], []⟩) Q E s := by
  unfold Builtin.«object.__ne__»
  repeat (first
    | with_reducible refine wpAny_cRoomFor hu ?_
    | (refine wpAny_bind (m := callSpecialIfBound? (.ref x) (Str.ofString "__eq__") [b])
        (ifBound_K X I he hf (wpAny_mono h (fun r s' hr => by
          obtain ⟨c, rfl, hq⟩ := hr
          repeat (first | exact hq | exact wpAny_pure hq | exact wpAny_truthy_bool hq | (refine wpAny_bind (m := truthy (.bool _)) (wpAny_truthy_bool ?_)) | wp_step)) fun _ _ e => e)))
    | wp_step)
open PySem.W in
theorem ne_try {Q : Value → Shared → Prop} (hu : A.units + 1 < cLine) (X : K.In s.heap) (I : InstAt s.heap x ox C od)
    (hs : findIn K (.ref C) "__ne__" = some (some (.builtin "object.__ne__"))) (ho : subIn K (.ref C) (.type "object") = some true) (he : findIn K (.ref C) "__eq__" = some (some (.ref f))) (hf : isFn K (.ref f) = true)
    (h : wpAny (model prog w) A.in1 (call (.ref f) [.ref x, b]) (fun v s' => ∃ c, v = .bool c ∧ Q (.bool (!c)) s') E s) : wpAny (model prog w) A (tryCompare (.ref x) "__ne__" b) (fun r s' => ∃ v, r = some v ∧ Q v s') E s := by
  have sub : Looks (model prog w) s.heap (isInstance (.ref x) (.type "object")) true := I.type.andThen (looks_subIn X ho)
  simp only [tryCompare]
  refine wpAny_bind (ifBound_B X I hs F.cmp_object.ne (wpAny_call (codeAny_call_builtin F.cmp_object.ne.plain F.cmpEntry_ne
    (@check_slot (model prog w) _ _ s "object.__ne__" "object" "__ne__" (.ref x) [b] [] _ (by decide +kernel) (by decide +kernel) sub (F.cmpArgs_ne _ _) (ne_entry (A := A.in1) hu X I he hf (wpAny_mono h (fun v s' hv => ?_) fun _ _ e => e))))))
  obtain ⟨c, rfl, hq⟩ := hv
  refine ⟨c, rfl, ?_⟩
  first | exact wpAny_pure ⟨_, rfl, hq⟩ | exact wpAny_pure (wpAny_pure ⟨_, rfl, hq⟩)
open PySem.W in
theorem ne_K {Q : Value → Shared → Prop} (hu : A.units + 1 < cLine) (F : Fr h₀ L s.heap m) (X₀ : K.In h₀) (I : InstAt s.heap x ox C od) (hb : Looks (model prog w) s.heap (typeOf b) tb) (hn : notFirst K C tb = true)
    (hs : findIn K (.ref C) "__ne__" = some (some (.builtin "object.__ne__"))) (ho : subIn K (.ref C) (.type "object") = some true) (he : findIn K (.ref C) "__eq__" = some (some (.ref f))) (hf : isFn K (.ref f) = true)
    (h : wpAny (model prog w) A.in1 (call (.ref f) [.ref x, b]) (fun v s' => ∃ c, v = .bool c ∧ Q (.bool (!c)) s') E s) : wpAny (model prog w) A (richCompare .NotEq (.ref x) b) Q E s := by
  have X := X₀.keeps F.keep
  have one := ne_try (A := A) hu X I hs ho he hf h
  unfold richCompare
  simp only [oneThing_ref]
  refine wpAny_holding (wpAny_bind (wpAny_cRoomFor (Nat.lt_of_succ_lt hu) ?_))
  refine wpAny_bind (I.type.here (wpAny_bind (hb.here ?_)))
  split
  · rename_i q
    have e : subIn K tb (.ref C) = some false := by
      rcases Bool.or_eq_true_iff.mp hn with e | e
      · rw [beq_iff_eq.mp e] at q; simp at q
      · exact beq_iff_eq.mp e
    refine wpAny_bind ((looks_subIn X e).here ?_)
    simp only [Bool.false_eq_true, if_false]
    refine wpAny_bind (wpAny_mono one (fun r s' z => ?_) fun _ _ e => e)
    obtain ⟨v, rfl, hq⟩ := z
    exact wpAny_pure hq
  · refine wpAny_bind (wpAny_pure ?_)
    simp only [Bool.false_eq_true, if_false]
    refine wpAny_bind (wpAny_mono one (fun r s' z => ?_) fun _ _ e => e)
    obtain ⟨v, rfl, hq⟩ := z
    exact wpAny_pure hq
end
/-- x == y and x != y of two of one class, its own __eq__ -/
def rCmpO (C : Addr) (sp : Sp) (neg : Bool) : R2 := fun x y H Q => ∃ a b dx dy fs gs, x = .ref a ∧ y = .ref b ∧ H a = some (.ins C dx fs) ∧ H b = some (.ins C dy gs) ∧ sp [x, y] H (fun v H' => ∃ c, v = .bl c ∧ Q (.bl (if neg = true then !c else c)) H') E0
section
variable {X : Cx} {CX : CXT} {k : Nat} {C f : Addr} {fd : FuncData} {ps : List Str} {sp : Sp}
theorem op_neO (F : FnOk X.prog X.w X.K X.mg X.base CX k f fd ps sp) (hr : Room (k + 1) X.A) (hm : Meth X.K C "__eq__" f) (hb : Binds X.K fd ps []) (hx : Passes CX X E0)
    (hn : PySem.W.findIn X.K (.ref C) "__ne__" = some (some (.builtin "object.__ne__")) ∧ PySem.W.subIn X.K (.ref C) (.type "object") = some true) : OpR X (compareOp .NotEq) (rCmpO C sp true) := by
  intro pins s σ H x y v u Q I rx ry h
  obtain ⟨a, b, dx, dy, fs, gs, rfl, rfl, ha, hb', hsp⟩ := h
  cases rx
  cases ry
  obtain ⟨mA, J, _⟩ := ins_get I.hok ha
  obtain ⟨mB, J', _⟩ := ins_get I.hok hb'
  obtain ⟨od, J, _⟩ := J.look
  obtain ⟨od', J', _⟩ := J'.look
  obtain ⟨m, hF⟩ := I.fr
  have hu : X.A.units + 1 < cLine := by have := hr.un; omega
  show wpAny _ _ (richCompare .NotEq (.ref a) (.ref b)) _ _ _
  refine ne_K hu hF I.ok.mod.kin J J'.type (by simp [PySem.W.notFirst]) hn.1 hn.2 hm.at_ hm.fn ?_
  have r2 : Vals [V.ref a, V.ref b] [Value.ref a, Value.ref b] := .cons rfl (.cons rfl .nil)
  refine wpAny_mono (own_call F hb hx ⟨hr.in1, rfl⟩ I r2 hsp) (fun v s' hq => ?_) fun _ _ z => z
  obtain ⟨z, H', I', rz, c, rfl, q⟩ := hq
  cases rz
  exact ⟨c, rfl, .bl (!c), H', I', rfl, q⟩
theorem op_eqO (F : FnOk X.prog X.w X.K X.mg X.base CX k f fd ps sp) (hr : Room k X.A) (hm : Meth X.K C "__eq__" f) (hb : Binds X.K fd ps []) (hx : Passes CX X E0) : OpR X (compareOp .Eq) (rCmpO C sp false) := by
  intro pins s σ H x y v u Q I rx ry h
  obtain ⟨a, b, dx, dy, fs, gs, rfl, rfl, ha, hb', hsp⟩ := h
  cases rx
  cases ry
  obtain ⟨mA, J, _⟩ := ins_get I.hok ha
  obtain ⟨mB, J', _⟩ := ins_get I.hok hb'
  obtain ⟨od, J, _⟩ := J.look
  obtain ⟨od', J', _⟩ := J'.look
  obtain ⟨m, hF⟩ := I.fr
  show wpAny _ _ (richCompare .Eq (.ref a) (.ref b)) _ _ _
  refine PySem.W.cmp_K (op := .Eq) (tb := .ref C) hr.units0 hF I.ok.mod.kin J J'.type (by simp [PySem.W.notFirst]) hm.at_ hm.fn ?_
  have r2 : Vals [V.ref a, V.ref b] [Value.ref a, Value.ref b] := .cons rfl (.cons rfl .nil)
  refine wpAny_mono (own_call F hb hx ⟨hr, rfl⟩ I r2 hsp) (fun v s' hq => ?_) fun _ _ z => z
  obtain ⟨z, H', I', rz, c, rfl, q⟩ := hq
  cases rz
  exact ⟨.bl c, H', I', rfl, q⟩
end
end G

/-! ## GNe -/
set_option Elab.async false
set_option linter.all false
set_option maxRecDepth 100000
namespace G
open PySem PySem.Spec PyProof.Rows L2
/-! ### lists of tuples that hold the same things -/
def SameV (x y : V) : Prop := x = y ∧ (flatB x = true ∨ ∃ a, x = .ref a)
theorem SameV.eqAt {A : Around} {s : Shared} {x y : V} {u v : Value} (h : SameV x y) (rx : RelV x u) (ry : RelV y v) : SeqAt.EqAt A s u v true := by
  obtain ⟨rfl, h | ⟨a, rfl⟩⟩ := h
  · exact eqAt_same rx ry h
  · cases (show u = Value.ref a from rx)
    cases (show v = Value.ref a from ry)
    exact SeqAt.EqAt.same _
def SameT (K : PySem.W.Frag) (H : Hp) (u v : V) : Prop := ∃ a b xs ys, u = .ref a ∧ v = .ref b ∧ SqT K H a xs ∧ SqT K H b ys ∧ Paired SameV xs ys
def rNeT (K : PySem.W.Frag) : R2 := fun x y H Q => ∃ p q us vs, x = .ref p ∧ y = .ref q ∧ SqL K H p us ∧ SqL K H q vs ∧ Paired (SameT K H) us vs ∧ Q (.bl false) H
section
variable {X : Cx} {pins : List (Addr × Obj)} {σ : L2.St} {H : Hp} {s : Shared}
theorem same_items {A : Around} {F : V → V → Prop} (ih : ∀ x y v u, F x y → RelV x v → RelV y u → SeqAt.EqAt A s v u true) {xs ys : List V} (hp : Paired F xs ys) :
    ∀ {us ws : List Value}, Vals xs us → Vals ys ws → ∀ j (h1 : j < us.length) (h2 : j < ws.length), SeqAt.EqAt A s us[j] ws[j] true := by
  induction hp with
  | nil =>
    intro us ws r1 r2 j h1 h2
    cases r1
    exact absurd h1 (Nat.not_lt_zero j)
  | cons h _ k =>
    intro us ws r1 r2 j h1 h2
    cases r1 with
    | cons a1 b1 =>
      cases r2 with
      | cons a2 b2 =>
        cases j with
        | zero => exact ih _ _ _ _ h a1 a2
        | succ j => exact k b1 b2 j (Nat.lt_of_succ_lt_succ h1) (Nat.lt_of_succ_lt_succ h2)
theorem sameT_eqAt (I : Inv X pins σ H s) {A : Around} (hu : A.units < cLine) {x y : V} {u v : Value} (h : SameT X.K H x y) (rx : RelV x u) (ry : RelV y v) : SeqAt.EqAt A s u v true := by
  obtain ⟨a, b, xs, ys, rfl, rfl, ha, hb, hp⟩ := h
  cases (show u = Value.ref a from rx)
  cases (show v = Value.ref b from ry)
  by_cases e : a = b
  · subst e; exact SeqAt.EqAt.same _
  obtain ⟨us, r1, p1, _⟩ := I.tuple ha
  obtain ⟨ws, r2, p2, _⟩ := I.tuple hb
  have hl : us.length = ws.length := by rw [← r1.length, ← r2.length]; exact Paired.length hp
  have q := SeqAt.RcAt.tuples (A := A) (s := s) (items := us.toArray) (items2 := ws.toArray) (e := fun _ => true) p1 p2 hu (fun j h1 h2 => by
    have k := same_items (A := A.in1) (s := s) (fun x y v u f r r' => SameV.eqAt f r r') hp r1 r2 j (by simpa using h1) (by simpa using h2)
    simpa using k)
  have et : ((List.range (min us.toArray.size ws.toArray.size)).all (fun _ => true) && us.toArray.size == ws.toArray.size) = true := by simp [hl]
  rw [et] at q
  exact SeqAt.EqAt.of_refs e q
theorem op_neT (hu : X.A.units + 2 < cLine) : OpR X (compareOp .NotEq) (rNeT X.K) := by
  intro pins s σ H x y v u Q I rx ry h
  obtain ⟨a, b, xs, ys, rfl, rfl, ha, hb, hp, q⟩ := h
  cases (show v = Value.ref a from rx)
  cases (show u = Value.ref b from ry)
  obtain ⟨us, r1, p1, _⟩ := I.list ha
  obtain ⟨ws, r2, p2, _⟩ := I.list hb
  have hl : us.length = ws.length := by rw [← r1.length, ← r2.length]; exact Paired.length hp
  have z := SeqAt.RcNeAt.lists (A := X.A) (s := s) (e := fun _ => true) p1.isList p2.isList (by simpa using hl) (by omega) (fun j h1 h2 => by
    have k := same_items (A := X.A.in1) (s := s) (fun x y v u f r r' => sameT_eqAt I (by show X.A.units + 1 < cLine; omega) f r r') hp r1 r2 j (by simpa using h1) (by simpa using h2)
    simpa using k)
  have et : (!(List.range us.toArray.size).all fun _ => true) = false := by simp
  rw [et] at z
  exact z _ _ _ _ ⟨.bl false, H, I, rfl, q⟩
end
end G

/-! ## GStr -/
set_option Elab.async false
set_option linter.all false
set_option maxRecDepth 100000
namespace G
open PySem PySem.Spec PyProof.Rows L2
def LcGoS (z : Str) (gt : TG) (tt : TT) (te : TE) (vs : List Nat) (σ : L2.St) (H1 : Hp) (Q : VK) : Prop :=
  ∀ D, H1 D = none → ∃ W : Nat → Nat → Hp → Prop, (∃ m, W 0 m (upd H1 D (.lst []))) ∧ ∀ i m H, W i m H →
  ((Its z).stop i H ∧ Q (.ref D) H) ∨ ((Its z).go i H ∧ ∃ Nx : Hp → Prop, (∀ H', Nx H' → ∃ m', m' < m ∧ W (i + 1) m' H') ∧ ∀ x H', (Its z).yld i H x H' → gt x (wipe σ vs) H' fun σ2 H2 => wipe σ2 vs = wipe σ vs ∧ tt σ2 H2 fun b H3 =>
    if b = true then te σ2 H3 fun y H4 => ∃ acc, H4 D = some (.lst acc) ∧ acc.length < sizeLine ∧ Nx (upd H4 D (.lst (acc ++ [y]))) else Nx H3)
theorem x_lcS {tl te : TE} {gt : TG} {tt : TT} {vs : List Nat} {σ : L2.St} {H : Hp} {Q : VK} (h : tl σ H fun v H1 => ∃ x, v = .str x ∧ LcGoS x gt tt te vs σ H1 Q) : tLc (iStr tl) gt tt te vs σ H Q := h
/-- [.. for sign in text] -/
theorem lcS {β : Type} {S : Rp β} (mS : Mono S) {G H : Hp} {z : Str} {gt : TG} {tt : TT} {te : TE} {vs : List Nat} {σ : L2.St} {Q : VK} (g : Nat → β)
    (e : Ex G H) (hz : z.cps.size < sizeLine)
    (turn : ∀ (c : Nat) (G1 H1 : Hp) (N0 : Hp → Prop) (N1 : VK), c ∈ z.cps.toList → St G H G1 H1 → (∀ G2 H2 y, St G1 H1 G2 H2 → S G2 y (g c) → N1 y H2) →
      gt (.str ⟨#[c]⟩) (wipe σ vs) H1 fun σ2 H2 => wipe σ2 vs = wipe σ vs ∧ tt σ2 H2 fun b H3 => if b = true then te σ2 H3 N1 else N0 H3)
    (done : ∀ G1 H1 D, St G H G1 H1 → IsL S G1 (.ref D) (z.cps.toList.map g) → Q (.ref D) H1) : LcGoS z gt tt te vs σ H Q := by
  intro D hD
  have hl : z.cps.toList.length = z.cps.size := Array.length_toList
  refine lc_it (walk_str (z := z)) (fun i H' => ∃ G' ys, St G H G' H' ∧ Mu G' H' D (.lst ys) ∧ Paired (S G') ys ((z.cps.toList.take i).map g)) ?_ (fun _ _ _ _ => trivial) ?_ ?_
  · obtain ⟨s, m⟩ := almF (o := .lst []) hD e
    exact ⟨G, [], s, m, .nil⟩
  · rintro i x H1 H' hi ⟨G', ys, s, m, ps⟩ ⟨rfl, c, hc, rfl⟩
    have hci : z.cps.toList[i]? = some c := by rw [Array.getElem?_toList]; exact hc
    have hmem : c ∈ z.cps.toList := List.mem_of_getElem? hci
    refine turn c G' H' _ _ hmem s (fun G2 H2 y s2 hy => ?_)
    have m2 := s2.mu m
    refine ⟨ys, m2.1, ?_, ?_⟩
    · rw [paired_len ps, List.length_map, List.length_take, hl]
      exact Nat.lt_of_le_of_lt (Nat.min_le_right _ _) hz
    · obtain ⟨s3, m3⟩ := chgF (o' := .lst (ys ++ [y])) m2 s2.i
      refine ⟨G2, ys ++ [y], Stm.fresh (s.trans s2) s3 (fun a z => by rw [List.mem_singleton.mp z]; exact hD), m3, ?_⟩
      rw [take_more hci, List.map_append]
      exact paired_snoc hy (paired_imp (fun a b q => mS _ _ a b s2.g q) ps)
  · rintro H' ⟨G', ys, s, m, ps⟩
    rw [← hl, List.take_length] at ps
    obtain ⟨s2, g2⟩ := freeze m s.i
    exact done (upd G' D (.lst ys)) H' D (Stm.fresh s s2 (fun a z => by rw [List.mem_singleton.mp z]; exact hD)) ⟨D, ys, rfl, g2, paired_imp (fun a b q => mS _ _ a b s2.g q) ps⟩
def rLenS : List V → Hp → VK → Prop := fun xs H Q => ∃ z : Str, xs = [.str z] ∧ z.length ≤ sizeLine ∧ Q (.int z.length) H
theorem lenS {X : Cx} : CallR X (.builtin "len") rLenS := call_len_str
end G

/-! ## GDisp -/
set_option Elab.async false
set_option linter.all false
set_option maxRecDepth 100000
namespace G
open PySem PySem.Spec PyProof.Rows L2
/-- a dict's display: the empty dict, the pairs, the dict -/
def DispGo (trs : List (TE × TE)) (σ : L2.St) (H : Hp) (Q : VK) : Prop := ∀ p, H p = none → tPairs trs σ (upd H p (.dK [])) fun ps H2 => H2 p = some (.dK []) ∧ ∃ kvs : List (Key × V), ps = kvs.map (fun kv => (kV kv.1, kv.2)) ∧ kvs.length ≤ 15 ∧ Q (.ref p) (upd H2 p (.dK (mergeK [] kvs)))
section
variable {σ : L2.St} {G H : Hp} {Q : VK}
theorem x_disp {trs : List (TE × TE)} (h : DispGo trs σ H Q) : tDisp trs σ H Q := h
theorem x_pnil {R : List (V × V) → Hp → Prop} (h : R [] H) : tPairs [] σ H R := h
theorem x_pcons {tk tv : TE} {trs : List (TE × TE)} {R : List (V × V) → Hp → Prop} (h : tk σ H fun k H1 => tv σ H1 fun v H2 => tPairs trs σ H2 fun ps H3 => R ((k, v) :: ps) H3) : tPairs ((tk, tv) :: trs) σ H R := h
theorem dispM {trs : List (TE × TE)} (e : Ex G H) (h : ∀ p H1, H p = none → St G H G H1 → Mu G H1 p (.dK []) → tPairs trs σ H1 fun ps H2 => H2 p = some (.dK []) ∧ ∃ kvs : List (Key × V), ps = kvs.map (fun kv => (kV kv.1, kv.2)) ∧ kvs.length ≤ 15 ∧ Q (.ref p) (upd H2 p (.dK (mergeK [] kvs)))) : DispGo trs σ H Q := by
  intro p hp
  obtain ⟨s, m⟩ := almF (o := .dK []) hp e
  exact h p _ hp s m
def DNewKGo (H : Hp) (Q : VK) : Prop := ∀ p, H p = none → Q (.ref p) (upd H p (.dK []))
theorem x_dnewK (h : DNewKGo H Q) : tDNewK σ H Q := h
theorem dnewK (e : Ex G H) (h : ∀ p H1, H p = none → St G H G H1 → Mu G H1 p (.dK []) → Q (.ref p) H1) : DNewKGo H Q := by
  intro p hp
  obtain ⟨s, m⟩ := almF (o := .dK []) hp e
  exact h p _ hp s m
end
/-- d[k] = v -/
def PutGo (x y v : V) (D : Ends) (σ : L2.St) (H : Hp) : Prop := ∃ a H4, x = .ref a ∧ DPut H a y v H4 ∧ D.nx σ H4
section
variable {K : PySem.W.Frag} {σ : L2.St} {G H : Hp} {Q : VK} {D : Ends} {d : Addr} {kvs : List (Key × V)} {hs : Hs}
theorem x_dput {td ty tv : TE} (h : tv σ H fun v H1 => td σ H1 fun x H2 => ty σ H2 fun y H3 => PutGo x y v D σ H3) : sDPut td ty tv D σ H := h
theorem putG {s : Str} {v : V} (m : Mu G H d (.dK kvs)) (e : Ex G H) (hz : kvs.length < sizeLine) (h : ∀ H1, Stm [d] G H G H1 → Mu G H1 d (.dK (putK kvs (Sum.inr s) v)) → D.nx σ H1) : PutGo (.ref d) (.str s) v D σ H := by
  obtain ⟨s1, m1⟩ := chgF (o' := .dK (putK kvs (Sum.inr s) v)) m e
  exact ⟨d, _, rfl, DPut.k (k := Sum.inr s) m.1 hz, h _ s1 m1⟩
/-- d.get(k, z) -/
def GetGo (x : V) (ty tx : TE) (σ : L2.St) (H : Hp) (Q : VK) : Prop := ∃ a, x = .ref a ∧ IsD H a ∧ ty σ H fun y H2 => tx σ H2 fun z H3 => ∃ o, DGet H3 a y o ∧ Q (o.getD z) H3
theorem x_dget2 {td ty tx : TE} (h : td σ H fun x H1 => GetGo x ty tx σ H1 Q) : tDGet2 td ty tx σ H Q := h
end
end G
namespace G
open PySem PySem.Spec PyProof.Rows L2
theorem Stm.closeA {A : List Addr} {G H G' H' : Hp} {d : Addr} {u : HO} (s : Stm (d :: A) G H G' H') (m : Mu G H d u) (m' : Mu G' H' d u) : Stm A G H G' H' :=
  ⟨s.g, s.i, fun q o n h => by
    by_cases c : q = d
    · subst c
      have : o = u := Option.some.inj (h.1.symm.trans m.1)
      rw [this]; exact m'
    · exact s.m q o (fun z => by rcases List.mem_cons.mp z with e | e; exact c e; exact n e) h⟩
theorem Stm.none {A : List Addr} {G H G' H' : Hp} {a : Addr} (s : Stm A G H G' H') (h : H' a = none) (n : a ∉ A) : H a = none := by
  cases q : H a with
  | none => rfl
  | some o =>
    cases g : G a with
    | none => rw [(s.m a o n ⟨q, g⟩).1] at h; cases h
    | some u => rw [s.i a u (s.g a u g)] at h; cases h
theorem HD.snoc {K : PySem.W.Frag} {G : Hp} {kvs : List (Key × V)} {hs : Hs} {s : Str} {v : V} {c : List Blk} (h : HD K G kvs hs) (hc : IsAr K G v c) : HD K G (kvs ++ [(Sum.inr s, v)]) (hs ++ [(s, c)]) := paired_snoc ⟨rfl, hc⟩ h
def nonE (h : Str × List Blk) : Bool := !h.2.isEmpty
def kn (hs : Hs) : Prop := (hs.map (·.1)).Nodup
theorem take_all {α : Type} {p : α → Bool} {l : List α} {i : Nat} (h : l.all p = true) : (l.take i).filter p = l.take i :=
  List.filter_eq_self.mpr fun x hx => List.all_eq_true.mp h x (List.mem_of_mem_take hx)
/-- a key that isn't there yet -/
theorem HD.fresh {K : PySem.W.Frag} {G : Hp} {kvs : List (Key × V)} {hs : Hs} {s : Str} (h : HD K G kvs hs) (n : ∀ x ∈ hs, x.1 ≠ s) (v : V) : putK kvs (Sum.inr s) v = kvs ++ [(Sum.inr s, v)] := by
  refine putK_new ?_
  rw [h.any s]
  refine Bool.eq_false_iff.mpr fun c => ?_
  obtain ⟨x, hx, e⟩ := List.any_eq_true.mp c
  exact n x hx (of_decide_eq_true e)
theorem kn_take {hs : Hs} {i : Nat} {x : Str × List Blk} (h : kn hs) (hi : hs[i]? = some x) : ∀ y ∈ hs.take i, y.1 ≠ x.1 := by
  intro y hy e
  have hil : i < hs.length := (List.getElem?_eq_some_iff.mp hi).1
  have hx : hs[i] = x := (List.getElem?_eq_some_iff.mp hi).2
  have hd : hs.drop i = x :: hs.drop (i + 1) := by rw [List.drop_eq_getElem_cons hil, hx]
  unfold kn at h
  rw [← List.take_append_drop i hs, hd, List.map_append, List.map_cons] at h
  exact (List.nodup_append.mp h).2.2 y.1 (List.mem_map_of_mem hy) x.1 (List.mem_cons_self ..) e
theorem putH_kn {hs : Hs} {s : Str} {a : List Blk} (h : kn hs) : kn (putH hs s a) := by
  unfold putH kn
  split
  · rw [List.map_map]
    have e : ((fun h : Str × List Blk => h.1) ∘ fun h => if h.1 = s then (h.1, a) else h) = fun h => h.1 := by
      funext x
      show (if x.1 = s then (x.1, a) else x).1 = x.1
      split <;> rfl
    rw [e]; exact h
  · rename_i c
    rw [List.map_append]
    refine List.nodup_append.mpr ⟨h, by simp, fun x hx y hy => ?_⟩
    simp only [List.map_cons, List.map_nil, List.mem_singleton] at hy
    subst hy
    rintro rfl
    obtain ⟨z, hz, e⟩ := List.mem_map.mp hx
    exact c (List.any_eq_true.mpr ⟨z, hz, decide_eq_true e⟩)
theorem mapH_kn {hs : Hs} {f : List Blk → List Blk} (h : kn hs) : kn (hs.map fun x => (x.1, f x.2)) := by
  unfold kn
  rw [List.map_map]; exact h
theorem filterH_kn {hs : Hs} {p : Str × List Blk → Bool} (h : kn hs) : kn (hs.filter p) := List.Nodup.sublist (List.Sublist.map _ (List.filter_sublist ..)) h
end G

/-! ## GEq -/
set_option Elab.async false
set_option linter.all false
set_option maxRecDepth 100000
namespace G
open PySem PySem.Spec PyProof.Rows L2
def rEqVK (K : PySem.W.Frag) : R2 := rEqV K
theorem eqVK {X : Cx} {K : PySem.W.Frag} (hu : X.A.units + 64 < cLine) (hK : X.K = K) : OpR X (compareOp .Eq) (rEqVK K) := by subst hK; exact op_eqV hu
theorem neTK {X : Cx} {K : PySem.W.Frag} (hu : X.A.units + 2 < cLine) (hK : X.K = K) : OpR X (compareOp .NotEq) (rNeT K) := by subst hK; exact op_neT hu
theorem HD.own {K : PySem.W.Frag} {G : Hp} : ∀ {kvs : List (Key × V)} {hs : Hs}, HD K G kvs hs → kn hs → ∀ q ∈ kvs, valV kvs q.1 = some q.2 ∧ ∃ a, q.2 = .ref a
  | _, _, .nil, _, q, hq => by cases hq
  | kv :: kvs, h :: hs, .cons r t, n, q, hq => by
    have n' := List.nodup_cons.mp n
    rcases List.mem_cons.mp hq with rfl | hq
    · obtain ⟨p, dx, qq, e, _⟩ := r.2
      exact ⟨valV_pos rfl, p, e⟩
    · have ih := HD.own t n'.2 q hq
      refine ⟨?_, ih.2⟩
      rw [valV_neg fun c => ?_]
      · exact ih.1
      · obtain ⟨i, hi⟩ := List.getElem?_of_mem hq
        obtain ⟨y, hy, ry⟩ := paired_get t hi
        have e1 : h.1 = y.1 := Sum.inr.inj ((r.1.symm.trans c).trans ry.1)
        exact n'.1 (by show h.1 ∈ _; rw [e1]; exact List.mem_map_of_mem (List.mem_of_getElem? hy))
theorem eqHeld {K : PySem.W.Frag} {G H : Hp} {a b : Addr} {kvs : List (Key × V)} {hs : Hs} {Q : VK} (h : HD K G kvs hs) (n : kn hs) (ha : H a = some (.dK kvs)) (hb : H b = some (.dK kvs)) (q : Q (.bl true) H) : rEqVK K (.ref a) (.ref b) H Q := by
  refine ⟨1, by decide, .inr ⟨a, b, kvs, kvs, rfl, rfl, ha, hb, rfl, fun p hp => ?_⟩, q⟩
  obtain ⟨h1, c, h2⟩ := h.own n p hp
  exact ⟨p.2, h1, .inr (.inl ⟨c, h2, h2⟩)⟩
def rSortD : List V → Hp → VK → Prop := fun xs H Q => ∃ (a : Addr) (kvs : List (Key × V)) (ks : List Str), xs = [.ref a] ∧ Rd H a (.dK kvs) ∧ kvs.map (·.1) = ks.map Sum.inr ∧ ks.length < 64 ∧
    ∀ ys p, ys.Perm ks → sortedS ys = true → H p = none → Q (.ref p) (upd H p (.lst (ys.map V.str)))
theorem sortD {X : Cx} (hc : X.calm = true) : CallR X (.builtin "sorted") rSortD := call_sortedD hc
theorem HD.keys {K : PySem.W.Frag} {G : Hp} : ∀ {kvs : List (Key × V)} {hs : Hs}, HD K G kvs hs → kvs.map (·.1) = (hs.map (·.1)).map Sum.inr
  | _, _, .nil => rfl
  | _, _, .cons r t => by rw [List.map_cons, List.map_cons, List.map_cons, r.1, HD.keys t]
theorem strs_paired {G : Hp} : ∀ (ns : List Str), Paired (IsS G) (ns.map V.str) ns
  | [] => .nil
  | n :: r => .cons rfl (strs_paired r)
/-- told: the keys, sorted; here of one key -/
theorem toldG {K : PySem.W.Frag} {G H : Hp} {a : Addr} {kvs : List (Key × V)} {hs : Hs} {Q : VK} (h : HD K G kvs hs) (m : Mu G H a (.dK kvs)) (e : Ex G H) (hz : hs.length < 64) (q : ∀ G1 H1 p ys, St G H G1 H1 → ys.Perm (hs.map (·.1)) → sortedS ys = true → IsL IsS G1 (.ref p) ys → Q (.ref p) H1) : rSortD [.ref a] H Q := by
  refine ⟨a, kvs, hs.map (·.1), rfl, .inl m.1, h.keys, by rw [List.length_map]; exact hz, fun ys p hp hs' hn => ?_⟩
  obtain ⟨s, g⟩ := alF (o := .lst (ys.map V.str)) hn e
  exact q _ _ p ys s hp hs' ⟨p, _, rfl, g, strs_paired ys⟩
end G

/-! ## GMax -/
set_option Elab.async false
set_option linter.all false
set_option maxRecDepth 100000
namespace G
open PySem PySem.Spec PyProof.Rows L2
def rMaxI : List V → Hp → VK → Prop := fun xs H Q => ∃ i j, xs = [.int i, .int j] ∧ Q (.int (if j > i then j else i)) H
theorem maxK {X : Cx} (hc : X.calm = true) : CallR X (.builtin "max") rMaxI := call_max2 hc
theorem x_lockS {te : TE} {i : Nat} {σ : L2.St} {H : Hp} {D : Ends} (h : tLockE te σ H fun v H1 => D.nx (σ.set i (some v)) H1) : tLock (tAsg te (gName i)) D σ H := h
def movedE (a : Int) (l : Option Int) (n : Int) : Option Rn := match l with
  | none => some ((if a + n > 1 then a + n else 1), none)
  | some l => if l + n < 1 then none else some ((if a + n > 1 then a + n else 1), some (l + n))
def movedB (b : Blk) (r c : Int) : List Blk := match movedE b.t b.b r, movedE b.l b.r c with
  | some u, some s => [⟨u.1, s.1, u.2, s.2⟩]
  | _, _ => []
end G

/-! ## GLaw -/
set_option Elab.async false
set_option linter.all false
set_option maxRecDepth 100000
namespace G
open PySem PySem.Spec PyProof.Rows L2
/-- int(x) of an int or a truth -/
def rInt1 : List V → Hp → VK → Prop := fun xs H Q => (∃ i, xs = [.int i] ∧ Q (.int i) H) ∨ ∃ k, xs = [.bl k] ∧ Q (.int (if k then 1 else 0)) H
theorem int1K {X : Cx} : CallR X (.type "int") rInt1 := call_int1
/-- the law's well: three numbers -/
def MuW (G H : Hp) (p : Addr) (c : Int) : Prop := ∃ a b, Mu G H p (.lst [.int a, .int b, .int c]) ∧ 0 ≤ b ∧ b < 2147483647
theorem ixW {K : PySem.W.Frag} {H : Hp} {p : Addr} {xs : List V} {i : Int} {v : V} {Q : VK} (h : H p = some (.lst xs)) (e : atI xs i = some v) (k : Q v H) : rIxL K (.ref p) (.int i) H Q := ⟨p, xs, i, v, rfl, rfl, sq h, e, k⟩
theorem x_gsub {to ti : TE} {t : TSet} {v : V} {σ : L2.St} {H : Hp} {Q : L2.St → Hp → Prop} (h : to σ H fun o H1 => ti σ H1 fun i H2 => t o i v H2 fun H3 => Q σ H3) : gSub to ti t v σ H Q := h
theorem setW {G H : Hp} {p : Addr} {xs : List V} {k : Int} {j : Nat} {v : V} {Q : Hp → Prop} (m : Mu G H p (.lst xs)) (e : Ex G H) (h : ixN xs.length k = some j) (q : ∀ H1, Stm [p] G H G H1 → Mu G H1 p (.lst (xs.set j v)) → Q H1) : rSetL (.ref p) (.int k) v H Q := by
  obtain ⟨s, m'⟩ := chgF (o' := .lst (xs.set j v)) m e
  exact ⟨p, xs, k, j, rfl, rfl, m.1, h, q _ s m'⟩
end G

/-! ## GHot -/
set_option Elab.async false
set_option linter.all false
set_option maxRecDepth 100000
set_option maxHeartbeats 2000000
/-! ### iterators that end while an exception is handled: only the first list of a zip can be at its end -/
namespace HotX
open PySem PySem.Spec PyProof.Rows
section
variable {prog : Program} {w : World} {A : Around} {E : Value → Shared → Prop} {s : Shared}
/-- a field is read, and on -/
theorem rd {M : Model} {α : Type} {a : Addr} {i : Nat} {o : Obj} {vs : Array Value} {x : Value} {f : Value → Sem α} {Q : α → Shared → Prop} (h : s.heap.get? a = some o) (d : o.data = .fields vs) (e : vs[i]? = some x) (k : wpAny M A (f x) Q E s) :
    wpAny M A (field (.ref a) i >>= f) Q E s := wpAny_bind (wpAny_field h d e k)
/-- the items of a list or tuple are read, and on -/
theorem rs {M : Model} {α : Type} {a : Addr} {o : Obj} {xs : Array Value} {n : Nat} {f : Option (Array Value) → Sem α} {Q : α → Shared → Prop} (h : s.heap.get? a = some o) (d : o.data = .seq xs n) (k : wpAny M A (f (some xs)) Q E s) :
    wpAny M A (seqItems? (.ref a) >>= f) Q E s := wpAny_bind (wpAny_seqItems h d k)
theorem HotAt.to {x1 : Addr} {h h' : Heap} (c : HotAt A x1 h) (k : ∀ o, h.get? x1 = some o → h'.get? x1 = some o) : HotAt A x1 h' := by
  obtain ⟨hh, o, vs, e1, e2, e3⟩ := c
  exact ⟨hh, o, vs, k _ e1, e2, e3⟩
theorem HotAt.lt {x1 : Addr} {h : Heap} (c : HotAt A x1 h) : x1 < h.objs.size := let ⟨_, _, _, e, _⟩ := c; Heap.lt_size e
/-- what is known of the heap behind an iterator's end: the StopIteration at e is new, all but the addresses of no stands as it stood -/
def Ended (E : Value → Shared → Prop) (s : Shared) (no : Addr → Prop) : Prop :=
  ∀ h' e, (∀ b o, ¬ no b → s.heap.get? b = some o → h'.get? b = some o) → (∃ o, h'.get? e = some o ∧ o.cls = .type "StopIteration") → E (.ref e) { s with heap := h' }
/-- StopIteration made and raised -/
theorem stop_hot {α : Type} {x1 : Addr} {Q : α → Shared → Prop} (hot : HotAt A x1 s.heap) (hE : Ended E s fun _ => False) :
    wpAny (model prog w) A (newExc (.type "StopIteration") []) (fun e s' => wpAny (model prog w) A (raiseNew e : Sem α) Q E s') E s := by
  simp only [newExc, newTuple]
  refine wpAny_bind (wpAny_newObj_type (wpAny_bind (m := firstArgMember _ _) (wpAny_of_eq (a := Value.none) rfl (wpAny_newObj_type ?_ (by size_fits)))) (by size_fits))
  have up : ∀ {c1 c2 : Obj} {b : Addr} {o : Obj}, s.heap.get? b = some o → ((s.heap.push c1).push c2).get? b = some o := fun e => Heap.get?_push_of_some _ (Heap.get?_push_of_some _ e)
  have far : ∀ c : Obj, x1 ≠ (s.heap.push c).objs.size := fun c => Nat.ne_of_lt (Nat.lt_of_lt_of_le hot.lt (by rw [Heap.size_push]; exact Nat.le_succ _))
  refine raiseNew_hot (hot.to fun o e => up e) (far _) (Heap.get?_push_size _ rfl) rfl (by simp only [Array.size_append]; simp; omega) ?_
  refine hE _ _ (fun b o _ e => ?_) ⟨_, Heap.get?_update_self _ (Heap.get?_push_size _ rfl) rfl, rfl⟩
  exact (Heap.get?_update_other _ _ (Nat.ne_of_gt (Heap.lt_size (Heap.get?_push_of_some _ e)))).trans (up e)
/-- behind the turn of a list's or tuple's iterator at its end: its sequence is let go, StopIteration is raised -/
theorem let_go {α : Type} {it l x1 : Addr} {i : Nat} {o : Obj} {f : Unit → Sem α} {Q : α → Shared → Prop} (hot : HotAt A x1 s.heap) (hn : x1 ≠ it) (ho : s.heap.get? it = some o) (hd : o.data = .fields #[.ref l, .int i 0]) (hE : Ended E s (· = it))
    (hf : f () = newExc (.type "StopIteration") [] >>= fun e => raiseNew e) : wpAny (model prog w) A (setField (.ref it) 0 .none >>= f) Q E s := by
  refine wpAny_bind (wpAny_setField ho hd (by simp) ?_)
  rw [hf]
  have sb : ∀ b u, b ≠ it → s.heap.get? b = some u → (s.heap.update it (Obj.mapFields (·.setIfInBounds 0 Value.none))).get? b = some u := fun b u hb q => (Heap.get?_update_other _ _ (Ne.symm hb)).trans q
  exact wpAny_bind (stop_hot (x1 := x1) (hot.to fun u e => sb _ u hn e) fun h' e k he => hE h' e (fun b u hb q => k b u id (sb b u hb q)) he)
theorem nextOf_list_end_hot {it l x1 : Addr} {i : Nat} {items} {Q : Value → Shared → Prop} (hot : HotAt A x1 s.heap) (hn : x1 ≠ it)
    (hit : s.heap.IsListIter it l i) (hl : s.heap.IsList l items) (hx : items[i]? = none) (hE : Ended E s (· = it)) :
    wpAny (model prog w) A (Builtin.SmallTypes.nextOf (.ref it)) Q E s := by
  obtain ⟨o, ho, hc, hd⟩ := id hit
  obtain ⟨ol, hol, _, nl, hdl⟩ := hl
  unfold Builtin.SmallTypes.nextOf
  have T := hit.typeIs
  refine wpAny_bind (wpAny_callSpecial?_slot T slot_listiter_next (wpAny_call_entry slot_listiter_next T entry_listiter_next ?_ (args_listiter_next _)))
  show wpAny _ _ (field _ 0 >>= _) _ _ _
  refine rd (x := .ref l) ho hd rfl ?_
  show wpAny _ _ (if (Value.ref l == Value.none) = true then _ else _) _ _ _
  rw [if_neg (show ¬ (Value.ref l == Value.none) = true from Bool.false_ne_true)]
  show wpAny _ _ (field _ 1 >>= _) _ _ _
  refine rd (x := .int i 0) ho hd rfl ?_
  show wpAny _ _ (seqItems? _ >>= _) _ _ _
  refine rs hol hdl ?_
  simp only [Int.toNat_natCast, hx]
  exact wpAny_bind (wpAny_rule (let_go (x1 := x1) hot hn ho hd hE rfl))
theorem next_tuple_end_hot {it t x1 : Addr} {i : Nat} {items} {Q : Option Value → Shared → Prop} (hot : HotAt A x1 s.heap) (hn : x1 ≠ it)
    (hit : IsTupIter s.heap it t i) (ht : IsTup s.heap t items) (hx : items[i]? = none)
    (hQ : ∀ h', Heap.ExtBut it s.heap h' → Q none { s with heap := h' }) : wpAny (model prog w) A (pyNext (.ref it)) Q E s := by
  obtain ⟨o, ho, hc, hd⟩ := id hit
  obtain ⟨ol, hol, _, nl, hdl⟩ := ht
  unfold pyNext
  have T := hit.typeIs
  refine wpAny_bind (wpAny_attempt (wpAny_callSpecial?_slot T slot_tupleiter_next (wpAny_call_entry slot_tupleiter_next T entry_tupleiter_next ?_ (args_tupleiter_next _))))
  show wpAny _ _ (field _ 0 >>= _) _ _ _
  refine rd (x := .ref t) ho hd rfl ?_
  show wpAny _ _ (if (Value.ref t == Value.none) = true then _ else _) _ _ _
  rw [if_neg (show ¬ (Value.ref t == Value.none) = true from Bool.false_ne_true)]
  show wpAny _ _ (field _ 1 >>= _) _ _ _
  refine rd (x := .int i 0) ho hd rfl ?_
  show wpAny _ _ (seqItems? _ >>= _) _ _ _
  refine rs hol hdl ?_
  simp only [Int.toNat_natCast, hx]
  refine wpAny_bind (wpAny_rule (let_go (x1 := x1) hot hn ho hd (fun h' e k he => ?_) rfl))
  obtain ⟨o', ho', hc'⟩ := he
  exact wpAny_bind (wpAny_isInstance ⟨o', ho', hc'⟩ isSubtype_stop (wpAny_pure (hQ _ fun b u hb q => k b u hb q)))
/-- (a, b) = t, t a tuple of two -/
theorem assign_pair_hot {env : Env} {elts : List Expr} {k1} {pos : Pos} {t x1 : Addr} {items : Array Value} {Q : Unit → Shared → Prop} (hot : HotAt A x1 s.heap) (ht : IsTup s.heap t items)
    (hn : (assignEach elts env).length = items.size) (hstar : (assignEach elts env).findIdx? (·.1) = none)
    (h : ∀ h', Heap.ExtBut s.heap.objs.size s.heap h' → wpAny (model prog w) A (assignInOrder ((assignEach elts env).map (·.2)) items.toList) Q E { s with heap := h' }) :
    wpAny (model prog w) A (assign (.Tuple elts k1 pos) env (.ref t)) Q E s := by
  obtain ⟨ot, hot', _⟩ := id ht
  have lt : t ≠ s.heap.objs.size := Nat.ne_of_lt (Heap.lt_size hot')
  have lx : x1 ≠ s.heap.objs.size := Nat.ne_of_lt hot.lt
  rw [assign_Tuple]
  refine wpAny_bind (wpAny_standAt ?_)
  unfold unpack unpackItems notIterableAtAll
  rw [hn, hstar]
  refine wpAny_bind (wpAny_holding (wpAny_bind (wpAny_bind (wpAny_specialOf ht.typeIs slot_tuple_iter.lookup (wpAny_pure ?_)))))
  simp only [Bool.false_eq_true, if_false]
  refine wpAny_bind (wpAny_holding (iter_tuple ht (wpAny_bind (wpAny_holding (draw_tuple lt items.size 0 _ _ ⟨_, Heap.get?_push_size _ rfl, rfl, rfl⟩ (ht.push _) (Nat.le_of_eq (Nat.zero_add _)) fun h1 i1 s1 => ?_)))))
  have all : (items.toList.drop 0).take items.size = items.toList := List.take_of_length_le (Nat.le_of_eq items.length_toList)
  rw [all, if_neg (by simp)]
  refine wpAny_bind (wpAny_holding (next_tuple_end_hot (x1 := x1) (hot.to fun o e => s1.extBut _ _ lx (Heap.get?_push_of_some _ e)) lx i1 ((ht.push _).extBut s1.extBut lt) (by simp) fun h2 e2 => ?_))
  simp only [Option.isSome_none, Bool.false_eq_true, if_false]
  exact wpAny_pure (h h2 fun b o hb e => e2 b o hb (s1.extBut b o hb (Heap.get?_push_of_some _ e)))
/-- the turn of a zip whose first list is at its end -/
theorem zip_end_hot {z TI TO i1 i2 l1 l2 x1 : Addr} {k1 : Nat} {xs : Array Value} {a b : Value} {Q : Option Value → Shared → Prop} (hot : HotAt A x1 s.heap) (n1 : x1 ≠ z) (n3 : x1 ≠ i1) (D : ZipApart z TI TO i1 i2 l1 l2)
    (hz : IsZip s.heap z TI TO .none) (hTI : IsPair s.heap TI (.ref i1) (.ref i2)) (hTO : IsPair s.heap TO a b) (h1 : s.heap.IsListIter i1 l1 k1) (hl1 : s.heap.IsList l1 xs) (hx : xs[k1]? = none)
    (hQ : ∀ h', (∀ c o, c ≠ z → c ≠ i1 → s.heap.get? c = some o → h'.get? c = some o) → Q none { s with heap := h' }) : wpAny (model prog w) A (pyNext (.ref z)) Q E s := by
  have T : s.TypeIs (.ref z) "zip" := ⟨_, hz, rfl⟩
  unfold pyNext
  refine wpAny_bind (wpAny_attempt (wpAny_callSpecial?_slot T F.slot_zip_next (wpAny_call_entry F.slot_zip_next T F.entry_zip_next ?_ (F.args_zip_next_1 _))))
  show wpAny _ _ (field _ 2 >>= _) _ _ _
  refine rd (x := .bool false) hz rfl rfl ?_
  show wpAny _ _ (field _ 3 >>= _) _ _ _
  refine rd (x := .ref TI) hz rfl rfl (rs hTI rfl ?_)
  show wpAny _ _ (Builtin.SmallTypes.ownedTupleIsFree _ >>= _) _ _ _
  unfold Builtin.SmallTypes.ownedTupleIsFree
  refine wpAny_bind (rd (x := .none) hz rfl rfl (wpAny_pure ?_))
  simp only [if_true]
  refine wpAny_bind (wpAny_rule (rd (x := .ref TO) hz rfl rfl (wpAny_bind (wpAny_setField_rec hz (by simp) fun g1 hz1 s1 => wpAny_bind ?_))))
  simp only [List.zipIdx_cons, List.zipIdx_nil, List.forIn_cons, List.forIn_nil]
  refine wpAny_bind (wpAny_bind (wpAny_onRaise ?_))
  show wpAny _ _ (Builtin.SmallTypes.nextOf (.ref i1) >>= _) _ _ _
  refine wpAny_bind (nextOf_list_end_hot (x1 := x1) (hot.to fun o e => s1.extBut _ _ n1 e) n3 (h1.extBut s1.extBut D.i1z) (hl1.extBut s1.extBut D.l1z) hx fun g2 e k he => ?_)
  obtain ⟨oe, hoe, hce⟩ := he
  have hz2 : IsZip g2 z TI TO .ellipsis := k _ _ D.i1z.symm hz1
  have hez : e ≠ z := fun q => by
    rw [q, hz2] at hoe
    cases hoe
    simp at hce
  refine wpAny_setField_rec hz2 (by simp) fun g3 _ s3 => wpAny_bind (wpAny_isInstance ⟨oe, s3.extBut _ _ hez hoe, hce⟩ isSubtype_stop (wpAny_pure (hQ g3 fun c o c1 c2 q => ?_)))
  exact s3.extBut _ _ c1 (k _ _ c2 (s1.extBut _ _ c1 q))
end
end HotX

/-! ## GHot2 -/
set_option Elab.async false
set_option linter.all false
set_option maxRecDepth 100000
set_option maxHeartbeats 2000000
/-! ### a comprehension over zip while an exception is handled; the second list is at least as long as the first -/
namespace L2Z
open PySem PySem.Spec PyProof.Rows L2 L2H HotX
abbrev St := L2.St
/-- the five objects of a zip of the lists at a and b, behind i turns -/
structure Zp (a b z TI TO i1 i2 : Addr) (i : Nat) (h : Heap) : Prop where
  z : IsZip h z TI TO .none
  ti : IsPair h TI (.ref i1) (.ref i2)
  out : ∃ x y, IsPair h TO x y
  fst : h.IsListIter i1 a i
  snd : h.IsListIter i2 b i
abbrev five (z TI TO i1 i2 : Addr) : List Addr := [z, TI, TO, i1, i2]
theorem five_of {z TI TO i1 i2 c : Addr} {P : Addr → Prop} (h : c ∈ five z TI TO i1 i2) (p1 : P z) (p2 : P TI) (p3 : P TO) (p4 : P i1) (p5 : P i2) : P c := by
  simp only [List.mem_cons, List.not_mem_nil, or_false] at h
  rcases h with rfl | rfl | rfl | rfl | rfl
  · exact p1
  · exact p2
  · exact p3
  · exact p4
  · exact p5
theorem five_ne {z TI TO i1 i2 c : Addr} (h : c ∉ five z TI TO i1 i2) : c ≠ z ∧ c ≠ TI ∧ c ≠ TO ∧ c ≠ i1 ∧ c ≠ i2 := by
  simpa only [List.mem_cons, List.not_mem_nil, or_false, not_or] using h
section
variable {a b z TI TO i1 i2 : Addr} {i : Nat} {h h' : Heap}
theorem Zp.obj (q : Zp a b z TI TO i1 i2 i h) : ∀ c ∈ five z TI TO i1 i2, ∃ o, h.get? c = some o ∧ ∀ v, o.data ≠ .cell v := by
  obtain ⟨hz, hT, ⟨x, y, hO⟩, ⟨o1, e1, _, d1⟩, ⟨o2, e2, _, d2⟩⟩ := q
  intro c hc
  refine five_of (P := fun c => ∃ o, h.get? c = some o ∧ ∀ v, o.data ≠ .cell v) hc ⟨_, hz, fun v => nofun⟩ ⟨_, hT, fun v => nofun⟩ ⟨_, hO, fun v => nofun⟩ ⟨o1, e1, fun v e => ?_⟩ ⟨o2, e2, fun v e => ?_⟩
  · rw [d1] at e; cases e
  · rw [d2] at e; cases e
theorem Zp.keep (q : Zp a b z TI TO i1 i2 i h) (k : ∀ c ∈ five z TI TO i1 i2, ∀ o, h.get? c = some o → h'.get? c = some o) : Zp a b z TI TO i1 i2 i h' := by
  obtain ⟨hz, hT, ⟨x, y, hO⟩, h1, h2⟩ := q
  exact ⟨k z (by simp) _ hz, k TI (by simp) _ hT, ⟨x, y, k TO (by simp) _ hO⟩, h1.at fun o e => k i1 (by simp) o e, h2.at fun o e => k i2 (by simp) o e⟩
end
section
variable {X : Cx} {pins : List (Addr × Obj)} {σ : St} {H : Hp} {s : Shared} {a b z TI TO i1 i2 : Addr} {i : Nat} {xs ys : List V}
/-- a turn that yields: the pair of both items, a new tuple -/
theorem zip_yields {E : Value → Shared → Prop} {elts : List Expr} {kk : Nat} {tpos : Pos} {x y : V} {Q : Addr → Shared → Prop} (D : ZipApart z TI TO i1 i2 a b) (I : Inv X pins σ H s) (hf : ∀ c ∈ five z TI TO i1 i2, FpOk X pins H c) (q : Zp a b z TI TO i1 i2 i s.heap)
    (ha : SqL X.K H a xs) (hb : SqL X.K H b ys) (hx : xs[i]? = some x) (hy : ys[i]? = some y)
    (k : ∀ T s', H T = none → Inv X pins σ (upd H T (.tup [x, y])) s' → Zp a b z TI TO i1 i2 (i + 1) s'.heap → (∀ c ∈ five z TI TO i1 i2, upd H T (.tup [x, y]) c = none) → Q T s') :
    wpAny (model X.prog X.w) X.A (pyNext (.ref z)) (fun r s1 => ∃ T, r = some (.ref T) ∧ wpAny (model X.prog X.w) X.A (letOwnedTupleGo (.Tuple elts kk tpos) (.ref z) (.ref T)) (fun _ s2 => Q T s2) E s1) E s := by
  obtain ⟨us, ra, pa, _⟩ := I.list ha
  obtain ⟨vs, rb, pb, _⟩ := I.list hb
  obtain ⟨u, hu, ru⟩ := ra.get hx
  obtain ⟨v, hv, rv⟩ := rb.get hy
  obtain ⟨hz, hT, ⟨x0, y0, hO⟩, h1, h2⟩ := id q
  have zl := Heap.lt_size hz
  have lt : ∀ c ∈ five z TI TO i1 i2, c < s.heap.objs.size := fun c hc => let ⟨_, e, _⟩ := q.obj c hc; Heap.lt_size e
  refine wpAny_pyNext_zip_item D hz hT hO h1 h2 pa.isList pb.isList (x := u) (y := v) (by simpa using hu) (by simpa using hv) fun g gz gO g1 g2 gT _ gk => ⟨_, rfl, ?_⟩
  refine wpAny_letOwnedTupleGo_zip (s := { s with heap := g }) gz fun f fz sb => ?_
  have up : ∀ c o, c ≠ z → g.get? c = some o → f.get? c = some o := fun c o n e => (sb.2 c n).trans e
  have free : H s.heap.objs.size = none := I.hok.fresh (Nat.le_refl _)
  have tup : ObjOk X.prog X.w (upd H s.heap.objs.size (.tup [x, y])) f s.heap.objs.size (.tup [x, y]) := ⟨show 2 ≤ sizeLine by decide, [u, v], .cons ru (.cons rv .nil), _, up _ _ (Nat.ne_of_gt zl) gT, rfl, _, rfl⟩
  refine k s.heap.objs.size _ free (I.turnedNew (h' := f) (t' := s.toks) (ch := five z TI TO i1 i2) (fun c o hc e => ?_) hf (Nat.le_refl _) tup) ⟨fz, ?_, ⟨u, v, up _ _ D.TOz gO⟩, g1.at fun o e => up _ o D.i1z e, g2.at fun o e => up _ o D.i2z e⟩ fun c hc => ?_
  · obtain ⟨c1, c2, c3, c4, c5⟩ := five_ne hc
    exact up c o c1 (gk c o c1 c3 c4 c5 e)
  · exact up _ _ D.TIz (gk _ _ D.TIz D.TITO D.TIi1 D.TIi2 hT)
  · rw [upd_ne (Nat.ne_of_lt (lt c hc))]
    exact (hf c hc).1
/-- the turn at the end -/
theorem zip_stops {E : Value → Shared → Prop} {x1 : Addr} (D : ZipApart z TI TO i1 i2 a b) (hot : HotAt X.A x1 s.heap) (far : ∀ c ∈ five z TI TO i1 i2, x1 ≠ c) (I : Inv X pins σ H s) (hf : ∀ c ∈ five z TI TO i1 i2, FpOk X pins H c) (q : Zp a b z TI TO i1 i2 i s.heap)
    (ha : SqL X.K H a xs) (hx : xs.length ≤ i) : wpAny (model X.prog X.w) X.A (pyNext (.ref z)) (fun r s1 => r = none ∧ Inv X pins σ H s1) E s := by
  obtain ⟨us, ra, pa, _⟩ := I.list ha
  obtain ⟨hz, hT, ⟨x0, y0, hO⟩, h1, _⟩ := q
  have hl := ra.length
  refine zip_end_hot (x1 := x1) hot (far z (by simp)) (far i1 (by simp)) D hz hT hO h1 pa.isList (by simp; omega) fun g gk => ⟨rfl, ?_⟩
  exact I.turnedL (t' := s.toks) (ch := five z TI TO i1 i2) (fun c o hc e => gk c o (five_ne hc).1 (five_ne hc).2.2.2.1 e) hf
/-- zip(a, b) made and asked for its iterator -/
theorem zip_made {e e2 : Expr} {ta : TA} {p pos : Pos} {R : Addr → Addr → List V → List V → Hp → Prop} (hg : Gl X "zip") (hm : X.mg "zip" = none) (harg : PA X [e, e2] ta) (I : Inv X pins σ H s)
    (h : ta σ H fun vs H1 => ∃ a b xs ys, vs = [.ref a, .ref b] ∧ SqL X.K H1 a xs ∧ SqL X.K H1 b ys ∧ R a b xs ys H1)
    (hs : starEach [e, e2] X.env = (false, eval e X.env) :: starEach [e2] X.env := by rfl) (hpl : (backTo pos (starEach [e2] X.env)).any (·.1) = false := by rfl) :
    wpAny (model X.prog X.w) X.A (eval (.Call (.Name "zip" p) [e, e2] [] pos) X.env) (fun v s1 => wpAny (model X.prog X.w) X.A (pyIter v) (fun itv s2 => ∃ a b xs ys z TI TO i1 i2 H', itv = .ref z ∧ SqL X.K H' a xs ∧ SqL X.K H' b ys ∧ Inv X pins σ H' s2 ∧ ZipApart z TI TO i1 i2 a b ∧ Zp a b z TI TO i1 i2 0 s2.heap ∧
      (∀ c ∈ five z TI TO i1 i2, FpOk X pins H' c) ∧ R a b xs ys H') X.xe s1) X.xe s := by
  refine Call_ (ld_blt I hg hm PyProof.Rows.boot_zip (PyProof.Rows.callWith_type1 (thn (harg.run pos pins s σ H _ I h) fun us s1 ⟨vs, H1, I1, r1, a, b, xs, ys, ev, ha, hb, q⟩ => ?_) hs hpl))
  subst ev
  obtain ⟨u1, u2, rfl, e1, e2⟩ := vals2 r1
  cases (show u1 = Value.ref a from e1)
  cases (show u2 = Value.ref b from e2)
  obtain ⟨_, _, pa, _⟩ := I1.list ha
  obtain ⟨_, _, pb, _⟩ := I1.list hb
  refine call_zip_2 pa.isList pb.isList fun g gz gT gO g1 g2 _ gk => wpAny_pyIter_zip gz ?_
  have n0 := s1.heap.objs.size.le_refl
  refine ⟨a, b, xs, ys, _, _, _, _, _, H1, rfl, ha, hb, I1.kept (t' := s1.toks) gk, PySem.W.ktu_apart _ a b pa.lt pb.lt, ⟨gz, gT, ⟨_, _, gO⟩, g1, g2⟩, fun c hc => ?_, q⟩
  have le : s1.heap.objs.size ≤ c := five_of (P := fun c => s1.heap.objs.size ≤ c) hc (Nat.le_add_right _ _) (Nat.le_add_right _ _) (Nat.le_add_right _ _) n0 (Nat.le_add_right _ _)
  exact (I1.kept (t' := s1.toks) gk).kept (t' := s1.toks) (fun _ _ e => e) |> fun _ => I1.fpOk le (I1.hok.fresh le)
end
/-- a block that keeps the pins of the context around it -/
abbrev _root_.L2.Cx.blkZ (X : Cx) (s : Shared) (H : Hp) (scope : Scope) (cenv : Env) (fp : List Addr) : Cx := { X.blk s H scope cenv fp with pn := X.pn }
/-- what such a comprehension asks: the walk over the pairs, D the new list -/
def tLcZ (K : PySem.W.Frag) (ta : TA) (g : TG) (tt : TT) (te : TE) (vs : List Nat) : TE := fun σ H Q => ta σ H fun us H1 => ∃ a b xs ys, us = [.ref a, .ref b] ∧ SqL K H1 a xs ∧ SqL K H1 b ys ∧ xs.length ≤ ys.length ∧ ∀ D, H1 D = none →
  ∃ W : Nat → Hp → Prop, W 0 (upd H1 D (.lst [])) ∧ (∀ i H, W i H → SqL K H a xs ∧ SqL K H b ys) ∧ (∀ H, W xs.length H → Q (.ref D) H) ∧
    ∀ i x y T H, W i H → xs[i]? = some x → ys[i]? = some y → H T = none → g (.ref T) (wipe σ vs) (upd H T (.tup [x, y])) fun σ2 H2 => wipe σ2 vs = wipe σ vs ∧ tt σ2 H2 fun b H3 =>
      if b = true then te σ2 H3 fun w H4 => ∃ acc, H4 D = some (.lst acc) ∧ acc.length < sizeLine ∧ W (i + 1) (upd H4 D (.lst (acc ++ [w]))) else W (i + 1) H3
section
variable {X : Cx} {pins : List (Addr × Obj)} {σ : St} {H : Hp} {s : Shared}
theorem block_startZ {scope : Scope} {own : List (Str × Nat)} {fp : List Addr} (I : Inv X pins σ H s) (ok : BlkOk X.N X.env.scope scope own) (hN : X.N.Nodup) (hfp : ∀ b ∈ fp, FpOk X pins H b ∧ b < s.heap.objs.size) :
    Inv (X.blkZ s H scope (compEnvC scope (cellsFrom (s.heap.objs.size + 1) scope.names (cloFrom X.env.cells scope.names [])) s.heap.objs.size X.env) fp) [] (wipe σ (own.map (·.2))) H { s with heap := pushCells (s.heap.push { cls := .type "dict", data := .dict #[] }) scope.names } := by
  have J := block_start I ok hN hfp
  have O := J.ok
  refine ⟨⟨O.mod, O.kind, O.glob, O.blt, O.above, O.inj, O.has, O.cab, O.hd, O.frames, O.stk, O.exf, O.bs, O.bsz, O.noex, O.exfs, O.funs, O.frf⟩, J.os, J.bare, J.base, J.loc, J.cell, J.free, J.freeC, fun p hp => ?_, J.hok, J.len⟩
  obtain ⟨e, n, ne, nf, d⟩ := I.pin p (List.mem_append_left _ (by rwa [List.append_nil] at hp))
  exact ⟨pushCells_keeps _ _ _ _ (Heap.get?_push_of_some _ e), n, Nat.ne_of_lt (Heap.lt_size e), fun hb => (List.mem_cons.mp (I.stkSub _ hb)).elim ne nf, d⟩
/-- a new empty list -/
theorem newList {h0 : Heap} (I : Inv X pins σ H s) (e : s.heap = h0) : Inv X pins σ (upd H h0.objs.size (.lst [])) { s with heap := h0.push { cls := .type "list", data := .seq ([] : List Value).toArray } } := by
  subst e
  exact I.laid (t' := s.toks) (fun b o e => Heap.get?_push_of_some _ e) (Nat.le_refl _) ⟨Nat.zero_le _, [], 0, .nil, Heap.get?_push_size _ rfl⟩
/-- the loop of the block: Y its context, R what is wanted behind it -/
theorem zip_loop {elt : Expr} {iter : Expr} {elts : List Expr} {kk : Nat} {tpos pos : Pos} {ifs : List Expr} {scope scp : Scope} {ce : Env} {vs : List Nat} {g : TG} {tt : TT} {te : TE} {a b z TI TO i1 i2 D x1 : Addr} {xs ys : List V} {s3 s4 : Shared} {H3 : Hp} {W : Nat → Hp → Prop} {R : Shared → Prop}
    (hot : ∀ h : Heap, (∀ p ∈ X.pn, h.get? p.1 = some p.2) → HotAt X.A x1 h) (hp : ∃ p ∈ X.pn, p.1 = x1) (far : ∀ c ∈ five z TI TO i1 i2, ∀ p ∈ X.pn, p.1 ≠ c) (ap : ZipApart z TI TO i1 i2 a b) (hle : xs.length ≤ ys.length)
    (pg : PG (X.blkZ s3 H3 scope ce (five z TI TO i1 i2)) (.Tuple elts kk tpos) g) (pt : PTs (X.blkZ s3 H3 scope ce (five z TI TO i1 i2)) ifs tt) (pe : PE (X.blkZ s3 H3 scope ce (five z TI TO i1 i2)) elt te)
    (I4 : Inv (X.blkZ s3 H3 scope ce (five z TI TO i1 i2)) [] (wipe σ vs) H3 s4) (z4 : Zp a b z TI TO i1 i2 0 s4.heap) (n4 : ∀ c ∈ five z TI TO i1 i2, H3 c = none) (w0 : W 0 H3) (hW : ∀ i H, W i H → SqL X.K H a xs ∧ SqL X.K H b ys)
    (hR : ∀ s' H', Inv (X.blkZ s3 H3 scope ce (five z TI TO i1 i2)) [] (wipe σ vs) H' s' → W xs.length H' → R s')
    (step : ∀ i x y T H, W i H → xs[i]? = some x → ys[i]? = some y → H T = none → g (.ref T) (wipe σ vs) (upd H T (.tup [x, y])) fun σ2 H2 => wipe σ2 vs = wipe σ vs ∧ tt σ2 H2 fun b H3 =>
      if b = true then te σ2 H3 fun w H4 => ∃ acc, H4 D = some (.lst acc) ∧ acc.length < sizeLine ∧ W (i + 1) (upd H4 D (.lst (acc ++ [w]))) else W (i + 1) H3) :
    codeAny (model X.prog X.w) X.A (.compLoop (.ListComp elt [⟨.Tuple elts kk tpos, iter, ifs, 0⟩] scp pos) 0 (.ref z) (.ref D) ce) (fun r s' => match r with | .ok .next => R s' | _ => False) s4 := by
  generalize hY : X.blkZ s3 H3 scope ce (five z TI TO i1 i2) = Y at pg pt pe I4 hR
  have pnY : Y.pn = X.pn := by rw [← hY]
  have exY : Y.ex = five z TI TO i1 i2 := by rw [← hY]
  obtain ⟨eP, ew, eK, eA⟩ : Y.prog = X.prog ∧ Y.w = X.w ∧ Y.K = X.K ∧ Y.A = X.A := by subst hY; exact ⟨rfl, rfl, rfl, rfl⟩
  have eE : Y.env = ce := by rw [← hY]
  have eX : Y.xe = fun _ _ => False := by rw [← hY]
  have own5 : ∀ {σ' : St} {H' : Hp} {s' : Shared}, Inv Y [] σ' H' s' → (∀ c ∈ five z TI TO i1 i2, H' c = none) → ∀ c ∈ five z TI TO i1 i2, FpOk Y [] H' c := fun {σ' H' s'} J n c hc => by
    have hx : c ∈ Y.ex := by rw [exY]; exact hc
    exact ⟨n c hc, (J.ok.exf c hx).1, J.ok.exfs c hx, .inl hx, (J.ok.exf c hx).2, fun p hp => far c hc p (by rwa [List.append_nil, pnY] at hp)⟩
  refine compLoop_any (fun n s' => ∃ i H', n = xs.length - i ∧ i ≤ xs.length ∧ Inv Y [] (wipe σ vs) H' s' ∧ Zp a b z TI TO i1 i2 i s'.heap ∧ (∀ c ∈ five z TI TO i1 i2, H' c = none) ∧ W i H') ?_ xs.length ⟨0, H3, rfl, Nat.zero_le _, I4, z4, n4, w0⟩
  rintro n s5 ⟨i, H5, rfl, hi, I5, z5, n5, w5⟩
  obtain ⟨qa, qb⟩ := hW i H5 w5
  have qa' := qa
  have qb' := qb
  rw [← eK] at qa' qb'
  rw [← eP, ← ew, ← eA]
  by_cases lt : i < xs.length
  · have gx := List.getElem?_eq_getElem lt
    have gy := List.getElem?_eq_getElem (Nat.lt_of_lt_of_le lt hle)
    have item := zip_yields (X := Y) (E := fun _ _ => False) (elts := elts) (kk := kk) (tpos := tpos) (Q := fun T s' => H5 T = none ∧ Inv Y [] (wipe σ vs) (upd H5 T (.tup [xs[i], ys[i]'(Nat.lt_of_lt_of_le lt hle)])) s' ∧ Zp a b z TI TO i1 i2 (i + 1) s'.heap ∧ ∀ c ∈ five z TI TO i1 i2, upd H5 T (.tup [xs[i], ys[i]'(Nat.lt_of_lt_of_le lt hle)]) c = none)
      ap I5 (own5 I5 n5) z5 qa' qb' gx gy fun T s' h1 h2 h3 h4 => ⟨h1, h2, h3, h4⟩
    refine thnF item fun r s6 hr => ?_
    obtain ⟨T, rfl, h6⟩ := hr
    refine thnF h6 fun _ s7 h7 => ?_
    obtain ⟨nT, I7, z7, n7⟩ := h7
    have st := step i _ _ T H5 w5 gx gy nT
    have run1 := pg.run _ s7 _ _ (.ref T) (.ref T) _ (I7.pinned (own5 I7 n7) z7.obj) rfl st
    rw [eE, eX] at run1
    refine thnF run1 fun _ s8 h8 => ?_
    obtain ⟨σ8, H8, I8, hw8, q8⟩ := h8
    have run2 := pt.run _ s8 σ8 H8 _ I8 q8
    rw [eE, eX] at run2
    refine thnF run2 fun cc s9 h9 => ?_
    obtain ⟨H9, I9, q9⟩ := h9
    have again : ∀ {s' : Shared} {H' : Hp}, Inv Y ([] ++ pinsAt (five z TI TO i1 i2) s7.heap) σ8 H' s' → W (i + 1) H' → ∃ m, m < xs.length - i ∧ ∃ j H', m = xs.length - j ∧ j ≤ xs.length ∧ Inv Y [] (wipe σ vs) H' s' ∧ Zp a b z TI TO i1 i2 j s'.heap ∧ (∀ c ∈ five z TI TO i1 i2, H' c = none) ∧ W j H' := fun {s' H'} J w => by
      have pin : ∀ c ∈ five z TI TO i1 i2, ∀ o, s7.heap.get? c = some o → s'.heap.get? c = some o ∧ H' c = none := fun c hc o e =>
        have P := J.pin (c, o) (List.mem_append_right _ (List.mem_append_right _ (mem_pinsAt hc e)))
        ⟨P.1, P.2.1⟩
      have back : Inv Y [] (wipe σ vs) H' s' := (J.unpinned (pins := [])).weak (by rw [← hw8, wipe_length]) fun j v e => (wipe_some (hw8 ▸ e)).1
      refine ⟨xs.length - (i + 1), by omega, i + 1, H', rfl, lt, back, z7.keep fun c hc o e => (pin c hc o e).1, fun c hc => ?_, w⟩
      obtain ⟨o, e, _⟩ := z7.obj c hc
      exact (pin c hc o e).2
    cases cc with
    | false =>
      rw [if_neg Bool.false_ne_true] at q9 ⊢
      exact again I9 q9
    | true =>
      rw [if_pos rfl] at q9 ⊢
      have run3 := pe.run _ s9 σ8 H9 _ I9 q9
      rw [eE, eX] at run3
      refine thnF run3 fun u s10 h10 => ?_
      obtain ⟨y, H10, I10, r10, acc, hD, hz, w⟩ := h10
      exact app_ok I10 hD hz r10 fun s11 J => again J w
  · have e : i = xs.length := by omega
    subst e
    have hh : HotAt Y.A x1 s5.heap := by
      rw [eA]
      exact hot _ fun p hp => (I5.pin p (List.mem_append_left _ (by rwa [pnY]))).1
    refine thnF (zip_stops (X := Y) (E := fun _ _ => False) ap hh (fun c hc => ?_) I5 (own5 I5 n5) z5 qa' (Nat.le_refl _)) fun r s6 h6 => ?_
    · obtain ⟨p, hp, rfl⟩ := hp
      exact far c hc p hp
    · obtain ⟨rfl, I6⟩ := h6
      exact hR s6 H5 I6 w5
theorem pe_lcZ {elt e1 e2 : Expr} {elts : List Expr} {kk : Nat} {tpos zp zpos : Pos} {ifs : List Expr} {scope : Scope} {own : List (Str × Nat)} {pos : Pos} {ta : TA} {g : TG} {tt : TT} {te : TE} (hc : HotC X) (hN : X.N.Nodup) (hgz : Gl X "zip") (hmz : X.mg "zip" = none) (harg : PA X [e1, e2] ta) (ok : BlkOk X.N X.env.scope scope own)
    (hg : ∀ (s : Shared) (H : Hp) (C : Addr) (cl : List (Str × Addr)) (fp : List Addr), PG (X.blkZ s H scope (compEnvC scope cl C X.env) fp) (.Tuple elts kk tpos) g) (ht : ∀ (s : Shared) (H : Hp) (C : Addr) (cl : List (Str × Addr)) (fp : List Addr), PTs (X.blkZ s H scope (compEnvC scope cl C X.env) fp) ifs tt)
    (he : ∀ (s : Shared) (H : Hp) (C : Addr) (cl : List (Str × Addr)) (fp : List Addr), PE (X.blkZ s H scope (compEnvC scope cl C X.env) fp) elt te)
    (hs : starEach [e1, e2] X.env = (false, eval e1 X.env) :: starEach [e2] X.env := by rfl) (hpl : (backTo zpos (starEach [e2] X.env)).any (·.1) = false := by rfl)
    (hfs : ∀ x, foldedSetIterable (.Call (.Name "zip" zp) [e1, e2] [] zpos) X.env x = pure x := by intro _; rfl) :
    PE X (.ListComp elt [⟨.Tuple elts kk tpos, .Call (.Name "zip" zp) [e1, e2] [] zpos, ifs, 0⟩] scope pos) (tLcZ X.K ta g tt te (own.map (·.2))) := by
  refine ⟨fun pins s σ H Q I h => ?_⟩
  obtain ⟨px, ⟨hh, v1, c1, c2⟩, hpx⟩ := hc
  have caught : ∀ y ∈ scope.names, y.2 = .free → ∃ c, X.env.cells.lookup y.1 = some c := fun y hy e => (ok.free y hy e).elim (fun k => I.ok.has _ (.inl k)) fun k => I.ok.has _ (.inr k)
  refine eval_ListComp .. ▸ ?_
  refine wpAny_comprehension_free (use := none) rfl hfs (closure_ok caught) ok.kind (fun y hy e => by rw [ok.uniq y hy, e]) (thn (zip_made hgz hmz harg I h hs hpl) fun xv s1 hx => thn hx fun itv s2 h2 => ?_)
  obtain ⟨a, b, xs, ys, z, TI, TO, i1, i2, H2, rfl, ha, hb, I2, D, zp2, f2, hle, q⟩ := h2
  refine wpAny_newObj_type (newEnv_comp ?_) (Nat.zero_le _)
  have free : H2 s2.heap.objs.size = none := I2.hok.fresh (Nat.le_refl _)
  obtain ⟨W, w0, hW, hQ, step⟩ := q _ free
  have I3 := newList I2 rfl
  generalize hD : s2.heap.objs.size = Da at *
  have lt : ∀ c ∈ five z TI TO i1 i2, c < s2.heap.objs.size := fun c hc => let ⟨_, e, _⟩ := zp2.obj c hc; Heap.lt_size e
  have f3 : ∀ c ∈ five z TI TO i1 i2, FpOk X pins (upd H2 Da (.lst [])) c ∧ c < (s2.heap.push { cls := .type "list", data := .seq ([] : List Value).toArray }).objs.size := fun c hc => by
    refine ⟨⟨?_, (f2 c hc).2⟩, by rw [Heap.size_push]; exact Nat.lt_succ_of_lt (lt c hc)⟩
    rw [upd_ne (by rw [← hD]; exact Nat.ne_of_lt (lt c hc))]
    exact (f2 c hc).1
  have I4 := block_startZ I3 ok hN f3
  have h3 : (s2.heap.push { cls := .type "list", data := .seq ([] : List Value).toArray }).objs.size = Da + 1 := by rw [Heap.size_push, hD]
  have up : ∀ {c : Addr} {o : Obj}, s2.heap.get? c = some o → (pushCells ((s2.heap.push { cls := .type "list", data := .seq ([] : List Value).toArray }).push { cls := .type "dict", data := .dict #[] }) scope.names).get? c = some o := fun e => pushCells_keeps _ _ _ _ (Heap.get?_push_of_some _ (Heap.get?_push_of_some _ e))
  have loop := zip_loop (X := X) (σ := σ) (x1 := px.1) (R := fun s' => ∃ m H', Inv X pins σ H' s' ∧ Q (.ref Da) H' ∧ s'.heap.Ns (s2.heap.push { cls := .type "list", data := .seq ([] : List Value).toArray }).objs.size m ∧ FpOk X pins H' (s2.heap.push { cls := .type "list", data := .seq ([] : List Value).toArray }).objs.size)
    (elt := elt) (iter := .Call (.Name "zip" zp) [e1, e2] [] zpos) (elts := elts) (kk := kk) (tpos := tpos) (pos := pos) (scp := scope) (D := Da)
    (fun h hp => ⟨hh, px.2, v1, hp px hpx, c1, c2⟩) ⟨px, hpx, rfl⟩ (fun c hc p hp => (f3 c hc).1.2.2.2.2.2 p (List.mem_append_left _ hp)) D hle (hg _ _ _ _ _) (ht _ _ _ _ _) (he _ _ _ _ _) I4
    (zp2.keep fun c _ o e => up e) (fun c hc => (f3 c hc).1.1) w0 hW (fun s6 H6 J w => ?_) step
  · have post : ∀ r s', (match r with | .ok .next => (∃ m H', Inv X pins σ H' s' ∧ Q (.ref Da) H' ∧ s'.heap.Ns (s2.heap.push { cls := .type "list", data := .seq ([] : List Value).toArray }).objs.size m ∧ FpOk X pins H' (s2.heap.push { cls := .type "list", data := .seq ([] : List Value).toArray }).objs.size) | _ => False) →
        compPost (model X.prog X.w) X.A X.xe none (EP X pins σ Q) (.ref Da) (s2.heap.push { cls := .type "list", data := .seq ([] : List Value).toArray }).objs.size r s' := fun r s' hr => by
      rcases r with e | f
      · exact hr.elim
      · cases f with
        | next =>
          obtain ⟨m, H', J, w, n, f0, f1, f2, f3, f4, f5⟩ := hr
          exact ⟨m, n, fun g sb => ⟨.ref Da, H', J.turned (t' := s'.toks) (fun c o hc e => (sb.2 c hc).trans e) f0 f1 f3 f4 f5, rfl, w⟩⟩
        | brk => exact hr.elim
        | cont => exact hr.elim
        | ret v => exact hr.elim
    exact codeAny_compStart_list (codeAny_mono loop post) (wpAny_pyIter_zip (zp2.keep fun c _ o e => up e).z (codeAny_mono loop post))
  · obtain ⟨m, n, _⟩ := J.loc
    exact ⟨m, H6, I3.call' (ch := five z TI TO i1 i2) J.os J.base J.hok J.bare fun c hc => ⟨(f3 c hc).1.2.2.2.1, (f3 c hc).1.2.1, (f3 c hc).1.2.2.2.2.1, (f3 c hc).1.2.2.2.2.2⟩, hQ H6 w, n, I3.fpOk (Nat.le_refl _) J.free⟩
/-- (x, y) = a pair, while an exception is handled -/
theorem pg_tupZ {pos : Pos} {es : List Expr} {k : Nat} {t : TGs} {n : Nat} (hc : HotC X) (h : PGs X es t)
    (hn : (assignEach es X.env).length = n := by rfl) (hst : (assignEach es X.env).findIdx? (·.1) = none := by rfl) : PG X (.Tuple es k pos) (gTup X.K n t) := by
  refine ⟨fun pins s σ H v u Q I r ⟨a, xs, ev, hq, hl, w⟩ => ?_⟩
  subst ev
  cases (show u = Value.ref a from r)
  obtain ⟨us, rv, ht, _⟩ := I.tuple hq
  obtain ⟨x1, hot⟩ := hc.at I
  exact assign_pair_hot hot ht (by simp [hn, ← hl, rv.length]) hst fun g gx => h.run pins _ σ H xs _ Q (I.kept (t' := s.toks) fun b o e => gx b o (Nat.ne_of_lt (Heap.lt_size e)) e) (by simpa using rv) w
theorem hotC_of {Y : Cx} {a : Addr} {oe : Obj} {cls : Value} {d : Option Addr} (hz : L2N.Zn cls d oe) (hf : ∃ vs, oe.data = .fields vs) (h1 : Y.A.handled = some (.ref a)) (h2 : (a, oe) ∈ Y.pn) : HotC Y := by
  obtain ⟨vs, hv⟩ := hf
  exact ⟨(a, oe), ⟨h1, vs, hv, hz.2.2 vs hv⟩, h2⟩
/-- isinstance(e, c) in a suite, whatever was caught -/
def rIsX (K : PySem.W.Frag) (cls : Value) (d : Option Addr) (a : Addr) : List V → Hp → VK → Prop := fun xs H Q => ∃ D, cls = .ref D ∧ d = none ∧ ExcC K D ∧ rIsE K D a xs H Q
theorem call_isK {K : PySem.W.Frag} {a : Addr} {oe : Obj} {cls : Value} {d : Option Addr} {pn : List (Addr × Obj)} (hK : X.K = K) (hz : L2N.Zn cls d oe) (hf : ∃ vs, oe.data = .fields vs) : CallR (X.suite a ((a, oe) :: pn)) (.builtin "isinstance") (rIsX K cls d a) := by
  subst hK
  intro pins s σ H xs us Q I r ⟨D, e1, e2, C, h⟩
  subst e1 e2
  exact call_isE C hz.zc hf pins s σ H xs us Q I r h
end
/-! ### methods in a try's body: what is raised is wished for at the slots; keywords -/
section
variable {X : Cx} {CX : CXT} {k n : Nat} {f C : Addr} {fd : FuncData} {ps ks : List Str} {sp : Sp} {dvs : List V} {ds : List Value} {E : L2.St → XK} {m : Str} {pos apos : Pos} {e o : Expr} {es : List Expr} {kws : List Keyword} {ta : TE} {t tk : TA} {g : List Value → List Value → List Value} {gV : List V → List V → List V}
def tMethSD (C : Addr) (m : Str) (sp : Sp) (dvs : List V) (E : L2.St → XK) (ta : TE) (t : TA) : TE := fun σ H Q => ta σ H fun x H1 => ∃ a dx fs, x = .ref a ∧ H1 a = some (.ins C dx fs) ∧ fs.lookup m = none ∧
  t σ H1 fun vs H2 => sp (x :: (vs ++ dvs)) H2 Q (E σ)
/-- how a method's call is evaluated -/
def MethEv (X : Cx) (o : Expr) (m : Str) (apos : Pos) (es : List Expr) (kws : List Keyword) (pos : Pos) (pl : Sem Bool) : Prop := eval (.Call (.Attribute o m apos) es kws pos) X.env = (do
  let ov ← eval o X.env
  standAt apos.atName
  let (f, first) ← holding [ov] (getMethod ov m pl)
  callWith pos f first (backTo pos (starEach es X.env)) (backToKw pos (keywordEach kws X.env)))
theorem pe_methSD {pl : Sem Bool} (he : PE X o ta) (c : Cls X.K C) (hm : Meth X.K C m f) (F : FnOk X.prog X.w X.K X.mg X.base CX k f fd ps sp) (hr : Room k X.A) (hb : Binds X.K fd ps ds) (hd : Vals dvs ds) (hx : ∀ σ, PassesAt CX X σ (E σ)) (ha : PA X (e :: es) t)
    (hst : starEach (e :: es) X.env = (false, eval e X.env) :: starEach es X.env := by rfl) (hpl : (backTo pos (starEach es X.env)).any (·.1) = false := by rfl) (ht : MethEv X o m apos (e :: es) [] pos pl := by rfl) :
    PE X (.Call (.Attribute o m apos) (e :: es) [] pos) (tMethSD C m sp dvs E ta t) :=
  ⟨fun pins s σ H Q I h => PySem.W.methodCall_KW (pl := pl) (thn (he.run pins s σ H _ I h) fun u s1 ⟨x, H1, I1, rx, a, dx, fs, ex, ea, l, q⟩ => by
    subst ex
    cases (show u = Value.ref a from rx)
    exact getmeth_ok I1 ea c hm l (PySem.W.callWith_K (first := [.ref a]) I.ok.mod.kin hm.kp (thn (ha.run pos pins s1 σ H1 _ I1 q) fun us s2 ⟨vs, H2, I2, r, w⟩ => ⟨I2.kIn, run_fnSD (us := .ref a :: us) (vs := .ref a :: vs) F hr hb hd (hx σ) I2 (.cons rfl r) w⟩) hst hpl)) ht⟩
/-- as the library's run_fnN, the wish about what is raised by the slots -/
theorem run_fnNS {pins : List (Addr × Obj)} {σ : L2.St} {H : Hp} {s : Shared} {Q : VK} {us ws : List Value} {vs zs : List V} (F : FnOk X.prog X.w X.K X.mg X.base CX k f fd ps sp) (hr : Room k X.A) (hb : KBn X.K fd ps n ks g gV) (hx : PassesAt CX X σ (E σ))
    (I : Inv X pins σ H s) (r : Vals vs us) (rz : Vals zs ws) (l1 : vs.length = n) (l2 : zs.length = ks.length) (h : sp (gV vs zs) H Q (E σ)) : wpAny (model X.prog X.w) X.A (call (.ref f) us (ks.zip ws)) (EP X pins σ Q) X.xe s := by
  have b := hb.to s us ws I.kIn (r.length.symm.trans l1) (rz.length.symm.trans l2)
  refine wpAny_call (codeAny_mono (F.run X.A X.stack s H _ _ _ Q (E σ) hr I.env0 b (hb.rel r rz) h) fun out s' w => ?_)
  rcases out with x | fl
  · exact hx pins H s x s' I w
  · cases fl with
    | ret u => exact I.after w
    | next => exact w.elim
    | brk => exact w.elim
    | cont => exact w.elim
def tMethND (C : Addr) (m : Str) (n mm : Nat) (sp : Sp) (gV : List V → List V → List V) (E : L2.St → XK) (ta : TE) (t tk : TA) : TE := fun σ H Q => ta σ H fun x H1 => ∃ a dx fs, x = .ref a ∧ H1 a = some (.ins C dx fs) ∧ fs.lookup m = none ∧
  t σ H1 fun vs H2 => tk σ H2 fun zs H3 => (x :: vs).length = n ∧ zs.length = mm ∧ sp (gV (x :: vs) zs) H3 Q (E σ)
theorem pe_methND {pl : Sem Bool} (he : PE X o ta) (c : Cls X.K C) (hm : Meth X.K C m f) (F : FnOk X.prog X.w X.K X.mg X.base CX k f fd ps sp) (hr : Room k X.A) (hb : KBn X.K fd ps n ks g gV) (hx : ∀ σ, PassesAt CX X σ (E σ)) (ha : PA X (e :: es) t) (hkw : PK X kws tk)
    (hall : (backToKw pos (keywordEach kws X.env)).all (·.1.isSome) = true := by rfl) (hks : (backToKw pos (keywordEach kws X.env)).filterMap (·.1) = ks := by rfl) (hst : starEach (e :: es) X.env = (false, eval e X.env) :: starEach es X.env := by rfl)
    (hpl : ((backTo pos (starEach (e :: es) X.env)).any (·.1) || (backToKw pos (keywordEach kws X.env)).any (·.1.isNone)) = false := by rfl) (ht : MethEv X o m apos (e :: es) kws pos pl := by rfl) :
    PE X (.Call (.Attribute o m apos) (e :: es) kws pos) (tMethND C m n ks.length sp gV E ta t tk) :=
  ⟨fun pins s σ H Q I h => PySem.W.methodCall_KW (pl := pl) (thn (he.run pins s σ H _ I h) fun u s1 ⟨x, H1, I1, rx, a, dx, fs, ex, ea, l, q⟩ => by
    subst ex
    cases (show u = Value.ref a from rx)
    refine getmeth_ok I1 ea c hm l (PySem.W.callWith_KW (first := [.ref a]) I.ok.mod.kin hm.kp hall (thn (ha.run pos pins s1 σ H1 _ I1 q) fun us s2 ⟨vs, H2, I2, r, w⟩ => thn (hkw.run pos pins s2 σ H2 _ I2 w) fun ws s3 ⟨zs, H3, I3, rz, l1, l2, w3⟩ => ⟨I3.kIn, ?_⟩) hpl hst)
    rw [hks]
    exact run_fnNS (us := .ref a :: us) (vs := .ref a :: vs) F hr hb (hx σ) I3 (.cons rfl r) rz l1 l2 w3) ht⟩
/-- the receiver of a method in a try's body -/
def MethGoS (C : Addr) (m : Str) (sp : Sp) (dvs : List V) (E : L2.St → XK) (t : TA) (σ : L2.St) (x : V) (H : Hp) (Q : VK) : Prop := ∃ a dx fs, x = .ref a ∧ H a = some (.ins C dx fs) ∧ fs.lookup m = none ∧ t σ H fun vs H2 => sp (x :: (vs ++ dvs)) H2 Q (E σ)
theorem x_methS {σ : L2.St} {H : Hp} {Q : VK} (h : ta σ H fun x H1 => MethGoS C m sp dvs E t σ x H1 Q) : tMethSD C m sp dvs E ta t σ H Q := h
def MethGoN (C : Addr) (m : Str) (n mm : Nat) (sp : Sp) (gV : List V → List V → List V) (E : L2.St → XK) (t tk : TA) (σ : L2.St) (x : V) (H : Hp) (Q : VK) : Prop := ∃ a dx fs, x = .ref a ∧ H a = some (.ins C dx fs) ∧ fs.lookup m = none ∧
  t σ H fun vs H2 => tk σ H2 fun zs H3 => (x :: vs).length = n ∧ zs.length = mm ∧ sp (gV (x :: vs) zs) H3 Q (E σ)
theorem x_methN {mm : Nat} {σ : L2.St} {H : Hp} {Q : VK} (h : ta σ H fun x H1 => MethGoN C m n mm sp gV E t tk σ x H1 Q) : tMethND C m n mm sp gV E ta t tk σ H Q := h
end
end L2Z
namespace L2
open PySem PySem.Spec PyProof.Rows
/-- f(e, .., k = v, ..) with defaults, no keyword-only parameters -/
theorem FunD.kbinds1 {K : PySem.W.Frag} {x qual : Str} {params : Arguments} {body : List Stmt} {scope : Scope} {dvs : List V} {kws : List (Str × V)} {f : Addr} {fd : FuncData} {ps : List Str} (F : FunD K x qual params body scope dvs kws f fd) (n : Nat) (ks : List Str) (g : {α : Type} → List α → List α → List α → List α) (hd : dvs ≠ [])
    (hrel : ∀ {vs ds zs : List V} {us its ws : List Value}, Vals vs us → Vals ds its → Vals zs ws → Vals (g vs ds zs) (g us its ws))
    (h : ∀ (T : Addr) (kV doc pm : Value) (an : Option Addr) (cdv ct : Value) (us its ws : List Value), us.length = n → its.length = dvs.length → ws.length = ks.length →
      ∃ k, bindArgs (PySem.W.fnOf x qual params body scope (.ref T) kV doc pm an cdv ct) ⟨us, ks.zip ws⟩ = seqItems? (.ref T) >>= k ∧ k (some its.toArray) = pure (ps.zip (g us its ws))) :
    ∃ its : List Value, KBn K fd ps n ks (fun us ws => g us its ws) (fun vs zs => g vs dvs zs) := by
  obtain ⟨oc, od, dV, kV, doc, pm, an, cdv, ct, osl, rfl, lk, hcd, dd, _⟩ := F.ex
  rcases dd with ⟨e, _⟩ | ⟨_, T, o, its, m, rfl, lT, oT, rT⟩
  · exact (hd e).elim
  · exact ⟨its, fun s us ws inn l1 l2 => let ⟨k, e1, e2⟩ := h T kV doc pm an cdv ct us its ws l1 rT.length.symm l2; L2.BindsTo.of_looks fun M => e1 ▸ looks_items inn lT oT (.of_pure e2), fun r1 r2 => hrel r1 rT r2⟩
end L2

/-! ## GHot3 -/
set_option Elab.async false
set_option linter.all false
set_option maxRecDepth 100000
namespace G
open PySem PySem.Spec PyProof.Rows L2
section
variable {K : PySem.W.Frag} {σ : L2.St} {H G : Hp} {Q : VK}
/-- a comprehension over zip of two lists -/
def LcZGo (K : PySem.W.Frag) (us : List V) (g : TG) (tt : TT) (te : TE) (vs : List Nat) (σ : L2.St) (H1 : Hp) (Q : VK) : Prop := ∃ a b xs ys, us = [.ref a, .ref b] ∧ SqL K H1 a xs ∧ SqL K H1 b ys ∧ xs.length ≤ ys.length ∧ ∀ D, H1 D = none →
  ∃ W : Nat → Hp → Prop, W 0 (upd H1 D (.lst [])) ∧ (∀ i H, W i H → SqL K H a xs ∧ SqL K H b ys) ∧ (∀ H, W xs.length H → Q (.ref D) H) ∧
    ∀ i x y T H, W i H → xs[i]? = some x → ys[i]? = some y → H T = none → g (.ref T) (wipe σ vs) (upd H T (.tup [x, y])) fun σ2 H2 => wipe σ2 vs = wipe σ vs ∧ tt σ2 H2 fun b H3 =>
      if b = true then te σ2 H3 fun w H4 => ∃ acc, H4 D = some (.lst acc) ∧ acc.length < sizeLine ∧ W (i + 1) (upd H4 D (.lst (acc ++ [w]))) else W (i + 1) H3
theorem x_lcZ {t : TA} {te : TE} {gt : TG} {tt : TT} {own : List Nat} (h : t σ H fun vs H1 => LcZGo K vs gt tt te own σ H1 Q) : L2Z.tLcZ K t gt tt te own σ H Q := h
theorem lcZip {α β γ : Type} {R : Rp α} {S : Rp β} {T : Rp γ} (mR : Mono R) (mS : Mono S) (mT : Mono T) {v u : V} {xs : List α} {ys : List β} {gt : TG} {tt : TT} {te : TE} {own : List Nat} (f : α × β → Bool) (g : α × β → γ)
    (e : Ex G H) (hx : IsL R G v xs) (hy : IsL S G u ys) (hle : xs.length ≤ ys.length) (hz : xs.length < sizeLine)
    (turn : ∀ (z : α × β) (w1 w2 : V) (Tt : Addr) (G1 H1 : Hp) (N0 : Hp → Prop) (N1 : VK), St G H G1 H1 → R G1 w1 z.1 → S G1 w2 z.2 → G1 Tt = some (.tup [w1, w2]) → (∀ G2 H2, St G1 H1 G2 H2 → f z = false → N0 H2) → (∀ G2 H2 y, St G1 H1 G2 H2 → T G2 y (g z) → f z = true → N1 y H2) →
      gt (.ref Tt) (wipe σ own) H1 fun σ2 H2 => wipe σ2 own = wipe σ own ∧ tt σ2 H2 fun b H3 => if b = true then te σ2 H3 N1 else N0 H3)
    (done : ∀ G1 H1 D, St G H G1 H1 → IsL T G1 (.ref D) (((xs.zip ys).filter f).map g) → Q (.ref D) H1) : LcZGo K [v, u] gt tt te own σ H Q := by
  obtain ⟨p, ws, rfl, hp, hr⟩ := hx
  obtain ⟨q, us, rfl, hq, hs⟩ := hy
  have l1 : ws.length = xs.length := paired_len hr
  have l2 : us.length = ys.length := paired_len hs
  have hl : ws.length = (xs.zip ys).length := by rw [List.length_zip, l1]; omega
  refine ⟨p, q, ws, us, rfl, sq (e _ _ hp), sq (e _ _ hq), by omega, fun D hD => ⟨fun i H' => ∃ G' zs, St G H G' H' ∧ Mu G' H' D (.lst zs) ∧ Paired (T G') zs ((((xs.zip ys).take i).filter f).map g), ?_, ?_, ?_, ?_⟩⟩
  · obtain ⟨s, m⟩ := almF (o := .lst []) hD e
    exact ⟨G, [], s, m, .nil⟩
  · rintro i H' ⟨G', zs, s, _, _⟩
    exact ⟨sq (s.i _ _ (s.g _ _ hp)), sq (s.i _ _ (s.g _ _ hq))⟩
  · rintro H' ⟨G', zs, s, m, ps⟩
    rw [hl, List.take_length] at ps
    obtain ⟨s2, g2⟩ := freeze m s.i
    exact done (upd G' D (.lst zs)) H' D (Stm.fresh s s2 (fun a z => by rw [List.mem_singleton.mp z]; exact hD)) ⟨D, zs, rfl, g2, paired_imp (fun a b q => mT _ _ a b s2.g q) ps⟩
  · rintro i x1 x2 Tt H1 ⟨G', zs, s, m, ps⟩ e3 e4 hT
    obtain ⟨a, ha, ra⟩ := paired_get hr e3
    obtain ⟨b, hb, rb⟩ := paired_get hs e4
    have hzi : (xs.zip ys)[i]? = some (a, b) := by rw [List.getElem?_zip_eq_some]; exact ⟨ha, hb⟩
    obtain ⟨s1, ht⟩ := alF (o := .tup [x1, x2]) hT s.i
    have hfl : ((((xs.zip ys).take i).filter f).map g).length < sizeLine := by
      refine Nat.lt_of_le_of_lt ?_ hz
      rw [List.length_map]
      refine Nat.le_trans (List.length_filter_le _ _) ?_
      rw [List.length_take, List.length_zip]
      omega
    refine turn (a, b) x1 x2 Tt _ _ _ _ (s.trans s1) (mR _ _ _ _ (s.trans s1).g ra) (mS _ _ _ _ (s.trans s1).g rb) ht (fun G2 H2 s2 hf => ?_) (fun G2 H2 y s2 hy hf => ?_)
    · refine ⟨G2, zs, (s.trans s1).trans s2, s2.mu (s1.mu m), ?_⟩
      have : List.filter f [(a, b)] = [] := by simp [hf]
      rw [take_more hzi, List.filter_append, List.map_append, this, List.map_nil, List.append_nil]
      exact paired_imp (fun a b q => mT _ _ a b (s1.trans s2).g q) ps
    · have m2 := s2.mu (s1.mu m)
      obtain ⟨s3, m3⟩ := chgF (o' := .lst (zs ++ [y])) m2 s2.i
      refine ⟨zs, m2.1, by rw [paired_len ps]; exact hfl, G2, zs ++ [y], Stm.fresh ((s.trans s1).trans s2) s3 (fun a z => by rw [List.mem_singleton.mp z]; exact hD), m3, ?_⟩
      have : List.filter f [(a, b)] = [(a, b)] := by simp [hf]
      rw [take_more hzi, List.filter_append, List.map_append, this]
      exact paired_snoc hy (paired_imp (fun a b q => mT _ _ a b (s1.trans s2).g q) ps)
theorem isX {D a C : Addr} {b : Bool} (c : ExcC K D) (k : PySem.W.kitOne K (.ref D) (.ref C) = some b) (q : Q (.bl b) H) : L2Z.rIsX K (.ref D) none a [.ref a, .ref C] H Q := ⟨D, rfl, rfl, c, _, _, b, rfl, fun _ h => h, k, q⟩
theorem isXT {D a : Addr} {n : String} {b : Bool} (c : ExcC K D) (k : PySem.W.kitOne K (.ref D) (.type n) = some b) (q : Q (.bl b) H) : L2Z.rIsX K (.ref D) none a [.ref a, .ty n] H Q := ⟨D, rfl, rfl, c, _, _, b, rfl, fun _ h => h, k, q⟩
theorem x_callSD {sp : Sp} {dvs : List V} {E : L2.St → XK} {t : TA} (h : t σ H fun vs H1 => sp (vs ++ dvs) H1 Q (E σ)) : tCallSD sp dvs E t σ H Q := h
end
end G
namespace L2Z
open PySem PySem.Spec PyProof.Rows L2 L2H
theorem pe_lcZK {X : Cx} {K : PySem.W.Frag} {elt e1 e2 : Expr} {elts : List Expr} {kk : Nat} {tpos zp zpos : Pos} {ifs : List Expr} {scope : Scope} {own : List (Str × Nat)} {pos : Pos} {ta : TA} {g : TG} {tt : TT} {te : TE} (hK : X.K = K) (hc : HotC X) (hN : X.N.Nodup) (hgz : Gl X "zip") (hmz : X.mg "zip" = none) (harg : PA X [e1, e2] ta) (ok : BlkOk X.N X.env.scope scope own)
    (hg : ∀ (s : Shared) (H : Hp) (C : Addr) (cl : List (Str × Addr)) (fp : List Addr), PG (X.blkZ s H scope (compEnvC scope cl C X.env) fp) (.Tuple elts kk tpos) g) (ht : ∀ (s : Shared) (H : Hp) (C : Addr) (cl : List (Str × Addr)) (fp : List Addr), PTs (X.blkZ s H scope (compEnvC scope cl C X.env) fp) ifs tt)
    (he : ∀ (s : Shared) (H : Hp) (C : Addr) (cl : List (Str × Addr)) (fp : List Addr), PE (X.blkZ s H scope (compEnvC scope cl C X.env) fp) elt te)
    (hs : starEach [e1, e2] X.env = (false, eval e1 X.env) :: starEach [e2] X.env := by rfl) (hpl : (backTo zpos (starEach [e2] X.env)).any (·.1) = false := by rfl)
    (hfs : ∀ x, foldedSetIterable (.Call (.Name "zip" zp) [e1, e2] [] zpos) X.env x = pure x := by intro _; rfl) :
    PE X (.ListComp elt [⟨.Tuple elts kk tpos, .Call (.Name "zip" zp) [e1, e2] [] zpos, ifs, 0⟩] scope pos) (tLcZ K ta g tt te (own.map (·.2))) := by
  subst hK; exact pe_lcZ hc hN hgz hmz harg ok hg ht he hs hpl hfs
end L2Z

/-! ## GLaw2 -/
set_option Elab.async false
set_option linter.all false
set_option maxRecDepth 100000
namespace G
open PySem PySem.Spec PyProof.Rows L2
/-- 'z' * n, n at least 2 -/
def repS (z : Str) (n : Nat) : Str := ⟨(List.replicate n z.cps).foldl (· ++ ·) #[]⟩
def rMulS : R2 := fun x y H Q => ∃ z n, x = .str z ∧ y = .int (n : Nat) ∧ 2 ≤ n ∧ n ≤ 1000 ∧ z.cps.size = 1 ∧ (repS z n).cps.size ≤ 1000 ∧ Q (.str (repS z n)) H
theorem op_mulS {X : Cx} : OpR X (binaryOp .Mult) rMulS := by
  intro pins s σ H x y v u Q I rx ry h
  obtain ⟨z, n, rfl, rfl, h2, h3, h4, h5, q⟩ := h
  obtain ⟨t, rfl⟩ := rx
  obtain ⟨t', rfl⟩ := ry
  have hz : z.length = 1 := h4
  have e1 : ((n : Int) == 1 || z.length == 0) = false := by
    rw [hz]
    have : ((n : Int) == 1) = false := by simp; omega
    rw [this]; rfl
  refine PySem.P.mul_str (by simp; omega) (fun _ _ => ?_) (fun _ _ => ?_) ?_
  · rw [hz]
    intro hc
    have : (n : Int) ≤ 1000 := by omega
    have h0 : (0 : Int) < n := by omega
    have := Int.le_ediv_of_mul_le h0 (show (1 : Int) * n ≤ 2 ^ 63 - 1 by omega)
    omega
  · rw [hz]
    show decide _ = false
    refine decide_eq_false ?_
    have : (1000 : Nat) ≤ sizeLine := by decide
    simp
    omega
  · rw [if_neg (by omega), e1]
    exact ⟨by have : (1000 : Nat) ≤ sizeLine := by decide
              show (repS z n).cps.size ≤ _
              omega, ⟨.str (repS z n), H, I.tok _, ⟨_, rfl⟩, q⟩⟩
theorem mulS {z : Str} {n : Nat} {m : Int} {H : Hp} {Q : VK} (hm : m = (n : Nat)) (h2 : 2 ≤ n) (h3 : n ≤ 1000) (h4 : z.cps.size = 1) (h5 : (repS z n).cps.size ≤ 1000) (q : Q (.str (repS z n)) H) : rMulS (.str z) (.int m) H Q := ⟨z, n, rfl, by rw [hm], h2, h3, h4, h5, q⟩
/-- an item of a list, by a number that is not known -/
theorem pick {K : PySem.W.Frag} {H : Hp} {p : Addr} {xs : List V} {i : Int} {P : V → Prop} {Q : VK} (h : H p = some (.lst xs)) (h0 : 0 ≤ i) (hn : i < (xs.length : Nat)) (hp : ∀ v ∈ xs, P v) (k : ∀ v, P v → Q v H) : rIxL K (.ref p) (.int i) H Q := by
  obtain ⟨j, rfl⟩ := Int.eq_ofNat_of_zero_le h0
  have hj : j < xs.length := by omega
  exact ⟨p, xs, _, xs[j], rfl, rfl, sq h, atI_nat (List.getElem?_eq_getElem hj), k _ (hp _ (List.getElem_mem hj))⟩
theorem MuW.st {G H G1 H1 : Hp} {p : Addr} {c : Int} (m : MuW G H p c) (s : St G H G1 H1) : MuW G1 H1 p c := by
  obtain ⟨a, b, m, b0, b1⟩ := m
  exact ⟨a, b, s.mu m, b0, b1⟩
theorem x_gnameN {i : Nat} {v : V} {σ σ' : L2.St} {H : Hp} {R : L2.St → Hp → Prop} (e : σ.set i (some v) = σ') (h : R σ' H) : gName i v σ H R := by
  subst e; exact h
/-- for i in range(lo, lo + n) -/
theorem rangeG {lo : Int} {n : Nat} {gt : TG} {tb : TS} {D : Ends} {σ : L2.St} {H G : Hp} (Pv : Nat → L2.St → Hp → Hp → Prop) (h0 : Pv 0 σ G H)
    (turn : ∀ i σ1 G1 H1, i < n → Pv i σ1 G1 H1 → gt (.int (lo + (i : Nat))) σ1 H1 fun σ2 H2 => tb { D with nx := fun σ' H' => ∃ G', Pv (i + 1) σ' G' H', ct := fun σ' H' => ∃ G', Pv (i + 1) σ' G' H', bk := D.nx } σ2 H2)
    (done : ∀ σ' G' H', Pv n σ' G' H' → D.nx σ' H') : ForGo (Itr lo n) gt tb D σ H := by
  refine for_it (walk_range (lo := lo) (n := n)) (fun i σ' H' => ∃ G', Pv i σ' G' H') ⟨G, h0⟩ (fun i σ' H' hi ⟨G', h⟩ => trivial) (fun i x σ' H1 H2 hi ⟨G', h⟩ y => ?_) (fun σ' H' ⟨G', h⟩ => done σ' G' H' h)
  obtain ⟨e2, hx⟩ := y
  subst e2 hx
  exact turn i σ' G' _ hi h
theorem x_iRng1 {ta : TA} {σ : L2.St} {H : Hp} {R : It → Hp → Prop} (h : ta σ H fun vs H1 => ∃ j : Int, vs = [.int j] ∧ -(2 ^ 62) ≤ j ∧ j < 2 ^ 62 ∧ R (Itr 0 j.toNat) H1) : iRng1 ta σ H R := h
theorem sqMono {K : PySem.W.Frag} {G H : Hp} {a : Addr} {xs : List V} (e : Ex G H) (h : SqL K G a xs) : SqL K H a xs := by
  rcases h with h | h
  · rcases h with h | ⟨o, h⟩
    · exact .inl (.inl (e _ _ h))
    · exact .inl (.inr ⟨o, e _ _ h⟩)
  · exact .inr h
theorem cutV_map (ns : List Int) (lo hi : Option Int) : ∃ ms : List Int, ms.length ≤ ns.length ∧ cutV (ns.map V.int) lo hi = ms.map V.int := by
  refine ⟨(ns.drop (HT.sIx (ns.map V.int).length 0 lo)).take (HT.sIx (ns.map V.int).length (ns.map V.int).length hi - HT.sIx (ns.map V.int).length 0 lo), ?_, ?_⟩
  · rw [List.length_take, List.length_drop]; omega
  · unfold cutV
    rw [List.map_take, List.map_drop]
end G

/-! ## K62Head -/
set_option Elab.async false
set_option linter.all false
set_option maxRecDepth 100000
set_option maxHeartbeats 0
namespace GT
open PySem PySem.Spec PyProof.Rows L2
def top (i : Nat) : Stmt := PySem.Challenge.pw_cellblocks_k62_what_sheets_refuse.main.body.getD i (.Pass ⟨0, 0, 0, 0⟩)
abbrev s__wall : Stmt := top 0
abbrev s_is_whole : Stmt := top 12
abbrev s_is_count : Stmt := top 13
abbrev s_is_cell : Stmt := top 14
abbrev s_checked_cell : Stmt := top 15
abbrev s_checked_move : Stmt := top 16
abbrev s_letters_of : Stmt := top 19
abbrev s_is_end : Stmt := top 21
abbrev s_is_rows : Stmt := top 22
abbrev s_is_columns : Stmt := top 23
abbrev s_letters_ahead : Stmt := top 24
abbrev s_by_ends : Stmt := top 25
abbrev s_Block___init__ : Stmt := inClass (top 26) 0
abbrev s_Block___eq__ : Stmt := inClass (top 26) 1
abbrev s_Block___str__ : Stmt := inClass (top 26) 2
abbrev s_Block___repr__ : Stmt := inClass (top 26) 3
abbrev s_Block_has : Stmt := inClass (top 26) 4
abbrev s_Block_size : Stmt := inClass (top 26) 5
abbrev s_row_text : Stmt := top 27
abbrev s_column_text : Stmt := top 28
abbrev s_is_at : Stmt := top 30
abbrev s_stretches : Stmt := top 31
abbrev s_cuts_of : Stmt := top 32
abbrev s_with_run : Stmt := top 33
abbrev s_runs_by : Stmt := top 34
abbrev s_columns_at : Stmt := top 35
abbrev s_bands_by : Stmt := top 36
abbrev s_form_of : Stmt := top 37
abbrev s_first_cell : Stmt := top 38
abbrev s_either : Stmt := top 39
abbrev s_both : Stmt := top 40
abbrev s_one_alone : Stmt := top 41
abbrev s_checked_blocks : Stmt := top 42
abbrev s_checked_area : Stmt := top 43
abbrev s_moved_ends : Stmt := top 44
abbrev s_moved_block : Stmt := top 45
abbrev s_Area___init__ : Stmt := inClass (top 46) 0
abbrev s_Area___eq__ : Stmt := inClass (top 46) 1
abbrev s_Area___len__ : Stmt := inClass (top 46) 2
abbrev s_Area___str__ : Stmt := inClass (top 46) 3
abbrev s_Area___repr__ : Stmt := inClass (top 46) 4
abbrev s_Area_blocks : Stmt := inClass (top 46) 5
abbrev s_Area_firsts : Stmt := inClass (top 46) 6
abbrev s_Area_has : Stmt := inClass (top 46) 7
abbrev s_Area_size : Stmt := inClass (top 46) 8
abbrev s_Area_by : Stmt := inClass (top 46) 9
abbrev s_Area_met : Stmt := inClass (top 46) 10
abbrev s_Area_joined : Stmt := inClass (top 46) 11
abbrev s_Area_without : Stmt := inClass (top 46) 12
abbrev s_Area_others : Stmt := inClass (top 46) 13
abbrev s_Area_is_within : Stmt := inClass (top 46) 14
abbrev s_Area_meets : Stmt := inClass (top 46) 15
abbrev s_Area_turned : Stmt := inClass (top 46) 16
abbrev s_Area_shifted : Stmt := inClass (top 46) 17
abbrev s_Change_checked : Stmt := inClass (top 48) 0
abbrev s_checked_changes : Stmt := top 49
abbrev s_area_behind : Stmt := top 50
abbrev s_check_value : Stmt := top 54
abbrev s_check_sheet : Stmt := top 55
abbrev s_first_of_part : Stmt := top 56
abbrev s_Sheet___init__ : Stmt := inClass (top 57) 0
abbrev s_Sheet___eq__ : Stmt := inClass (top 57) 1
abbrev s_Sheet___len__ : Stmt := inClass (top 57) 2
abbrev s_Sheet_fill : Stmt := inClass (top 57) 3
abbrev s_Sheet_hold : Stmt := inClass (top 57) 4
abbrev s_Sheet_value : Stmt := inClass (top 57) 5
abbrev s_Sheet_where : Stmt := inClass (top 57) 6
abbrev s_Sheet_told : Stmt := inClass (top 57) 7
abbrev s_Sheet_pairs : Stmt := inClass (top 57) 8
abbrev s_Sheet_change : Stmt := inClass (top 57) 9
abbrev s_Sheet_laid : Stmt := inClass (top 57) 10
abbrev s_Sheet_twin : Stmt := inClass (top 57) 11
abbrev s_unlike : Stmt := top 58
abbrev s_unlike_area : Stmt := top 59
abbrev s__law_cell_at : Stmt := top 61
abbrev s__law_well : Stmt := top 62
abbrev s__law_draw : Stmt := top 63
abbrev s__law_said : Stmt := top 64
abbrev s__law_no_value : Stmt := top 65
abbrev s__law_refused_right : Stmt := top 66
abbrev s_law : Stmt := top 67
def d_is_whole : He.DefD := ⟨("is_whole", none), "is_whole", "is_whole", defArgs s_is_whole, defBody s_is_whole, defScope s_is_whole, [], []⟩
def d_is_count : He.DefD := ⟨("is_count", none), "is_count", "is_count", defArgs s_is_count, defBody s_is_count, defScope s_is_count, [], []⟩
def d_is_cell : He.DefD := ⟨("is_cell", none), "is_cell", "is_cell", defArgs s_is_cell, defBody s_is_cell, defScope s_is_cell, [], []⟩
def d_checked_cell : He.DefD := ⟨("checked_cell", none), "checked_cell", "checked_cell", defArgs s_checked_cell, defBody s_checked_cell, defScope s_checked_cell, [], []⟩
def d_checked_move : He.DefD := ⟨("checked_move", none), "checked_move", "checked_move", defArgs s_checked_move, defBody s_checked_move, defScope s_checked_move, [], []⟩
def d_letters_of : He.DefD := ⟨("letters_of", none), "letters_of", "letters_of", defArgs s_letters_of, defBody s_letters_of, defScope s_letters_of, [], []⟩
def d_is_end : He.DefD := ⟨("is_end", none), "is_end", "is_end", defArgs s_is_end, defBody s_is_end, defScope s_is_end, [], []⟩
def d_is_rows : He.DefD := ⟨("is_rows", none), "is_rows", "is_rows", defArgs s_is_rows, defBody s_is_rows, defScope s_is_rows, [], []⟩
def d_is_columns : He.DefD := ⟨("is_columns", none), "is_columns", "is_columns", defArgs s_is_columns, defBody s_is_columns, defScope s_is_columns, [], []⟩
def d_letters_ahead : He.DefD := ⟨("letters_ahead", none), "letters_ahead", "letters_ahead", defArgs s_letters_ahead, defBody s_letters_ahead, defScope s_letters_ahead, [], []⟩
def d_by_ends : He.DefD := ⟨("by_ends", none), "by_ends", "by_ends", defArgs s_by_ends, defBody s_by_ends, defScope s_by_ends, [], []⟩
def d_Block___init__ : He.DefD := ⟨("Block", some "__init__"), "__init__", "Block.__init__", defArgs s_Block___init__, defBody s_Block___init__, defScope s_Block___init__, [.int 1, .int 1, .non, .non], []⟩
def d_Block___eq__ : He.DefD := ⟨("Block", some "__eq__"), "__eq__", "Block.__eq__", defArgs s_Block___eq__, defBody s_Block___eq__, defScope s_Block___eq__, [], []⟩
def d_Block___str__ : He.DefD := ⟨("Block", some "__str__"), "__str__", "Block.__str__", defArgs s_Block___str__, defBody s_Block___str__, defScope s_Block___str__, [], []⟩
def d_Block___repr__ : He.DefD := ⟨("Block", some "__repr__"), "__repr__", "Block.__repr__", defArgs s_Block___repr__, defBody s_Block___repr__, defScope s_Block___repr__, [], []⟩
def d_Block_has : He.DefD := ⟨("Block", some "has"), "has", "Block.has", defArgs s_Block_has, defBody s_Block_has, defScope s_Block_has, [], []⟩
def d_Block_size : He.DefD := ⟨("Block", some "size"), "size", "Block.size", defArgs s_Block_size, defBody s_Block_size, defScope s_Block_size, [], []⟩
def d_row_text : He.DefD := ⟨("row_text", none), "row_text", "row_text", defArgs s_row_text, defBody s_row_text, defScope s_row_text, [], []⟩
def d_column_text : He.DefD := ⟨("column_text", none), "column_text", "column_text", defArgs s_column_text, defBody s_column_text, defScope s_column_text, [], []⟩
def d_is_at : He.DefD := ⟨("is_at", none), "is_at", "is_at", defArgs s_is_at, defBody s_is_at, defScope s_is_at, [], []⟩
def d_stretches : He.DefD := ⟨("stretches", none), "stretches", "stretches", defArgs s_stretches, defBody s_stretches, defScope s_stretches, [], []⟩
def d_cuts_of : He.DefD := ⟨("cuts_of", none), "cuts_of", "cuts_of", defArgs s_cuts_of, defBody s_cuts_of, defScope s_cuts_of, [], []⟩
def d_with_run : He.DefD := ⟨("with_run", none), "with_run", "with_run", defArgs s_with_run, defBody s_with_run, defScope s_with_run, [], []⟩
def d_runs_by : He.DefD := ⟨("runs_by", none), "runs_by", "runs_by", defArgs s_runs_by, defBody s_runs_by, defScope s_runs_by, [], []⟩
def d_columns_at : He.DefD := ⟨("columns_at", none), "columns_at", "columns_at", defArgs s_columns_at, defBody s_columns_at, defScope s_columns_at, [], []⟩
def d_bands_by : He.DefD := ⟨("bands_by", none), "bands_by", "bands_by", defArgs s_bands_by, defBody s_bands_by, defScope s_bands_by, [], []⟩
def d_form_of : He.DefD := ⟨("form_of", none), "form_of", "form_of", defArgs s_form_of, defBody s_form_of, defScope s_form_of, [], []⟩
def d_first_cell : He.DefD := ⟨("first_cell", none), "first_cell", "first_cell", defArgs s_first_cell, defBody s_first_cell, defScope s_first_cell, [], []⟩
def d_either : He.DefD := ⟨("either", none), "either", "either", defArgs s_either, defBody s_either, defScope s_either, [], []⟩
def d_both : He.DefD := ⟨("both", none), "both", "both", defArgs s_both, defBody s_both, defScope s_both, [], []⟩
def d_one_alone : He.DefD := ⟨("one_alone", none), "one_alone", "one_alone", defArgs s_one_alone, defBody s_one_alone, defScope s_one_alone, [], []⟩
def d_checked_blocks : He.DefD := ⟨("checked_blocks", none), "checked_blocks", "checked_blocks", defArgs s_checked_blocks, defBody s_checked_blocks, defScope s_checked_blocks, [], []⟩
def d_checked_area : He.DefD := ⟨("checked_area", none), "checked_area", "checked_area", defArgs s_checked_area, defBody s_checked_area, defScope s_checked_area, [], []⟩
def d_moved_ends : He.DefD := ⟨("moved_ends", none), "moved_ends", "moved_ends", defArgs s_moved_ends, defBody s_moved_ends, defScope s_moved_ends, [], []⟩
def d_moved_block : He.DefD := ⟨("moved_block", none), "moved_block", "moved_block", defArgs s_moved_block, defBody s_moved_block, defScope s_moved_block, [], []⟩
def d_Area___init__ : He.DefD := ⟨("Area", some "__init__"), "__init__", "Area.__init__", defArgs s_Area___init__, defBody s_Area___init__, defScope s_Area___init__, [.non], []⟩
def d_Area___eq__ : He.DefD := ⟨("Area", some "__eq__"), "__eq__", "Area.__eq__", defArgs s_Area___eq__, defBody s_Area___eq__, defScope s_Area___eq__, [], []⟩
def d_Area___len__ : He.DefD := ⟨("Area", some "__len__"), "__len__", "Area.__len__", defArgs s_Area___len__, defBody s_Area___len__, defScope s_Area___len__, [], []⟩
def d_Area___str__ : He.DefD := ⟨("Area", some "__str__"), "__str__", "Area.__str__", defArgs s_Area___str__, defBody s_Area___str__, defScope s_Area___str__, [], []⟩
def d_Area___repr__ : He.DefD := ⟨("Area", some "__repr__"), "__repr__", "Area.__repr__", defArgs s_Area___repr__, defBody s_Area___repr__, defScope s_Area___repr__, [], []⟩
def d_Area_blocks : He.DefD := ⟨("Area", some "blocks"), "blocks", "Area.blocks", defArgs s_Area_blocks, defBody s_Area_blocks, defScope s_Area_blocks, [], []⟩
def d_Area_firsts : He.DefD := ⟨("Area", some "firsts"), "firsts", "Area.firsts", defArgs s_Area_firsts, defBody s_Area_firsts, defScope s_Area_firsts, [], []⟩
def d_Area_has : He.DefD := ⟨("Area", some "has"), "has", "Area.has", defArgs s_Area_has, defBody s_Area_has, defScope s_Area_has, [], []⟩
def d_Area_size : He.DefD := ⟨("Area", some "size"), "size", "Area.size", defArgs s_Area_size, defBody s_Area_size, defScope s_Area_size, [], []⟩
def d_Area_by : He.DefD := ⟨("Area", some "by"), "by", "Area.by", defArgs s_Area_by, defBody s_Area_by, defScope s_Area_by, [], []⟩
def d_Area_met : He.DefD := ⟨("Area", some "met"), "met", "Area.met", defArgs s_Area_met, defBody s_Area_met, defScope s_Area_met, [], []⟩
def d_Area_joined : He.DefD := ⟨("Area", some "joined"), "joined", "Area.joined", defArgs s_Area_joined, defBody s_Area_joined, defScope s_Area_joined, [], []⟩
def d_Area_without : He.DefD := ⟨("Area", some "without"), "without", "Area.without", defArgs s_Area_without, defBody s_Area_without, defScope s_Area_without, [], []⟩
def d_Area_others : He.DefD := ⟨("Area", some "others"), "others", "Area.others", defArgs s_Area_others, defBody s_Area_others, defScope s_Area_others, [], []⟩
def d_Area_is_within : He.DefD := ⟨("Area", some "is_within"), "is_within", "Area.is_within", defArgs s_Area_is_within, defBody s_Area_is_within, defScope s_Area_is_within, [], []⟩
def d_Area_meets : He.DefD := ⟨("Area", some "meets"), "meets", "Area.meets", defArgs s_Area_meets, defBody s_Area_meets, defScope s_Area_meets, [], []⟩
def d_Area_turned : He.DefD := ⟨("Area", some "turned"), "turned", "Area.turned", defArgs s_Area_turned, defBody s_Area_turned, defScope s_Area_turned, [], []⟩
def d_Area_shifted : He.DefD := ⟨("Area", some "shifted"), "shifted", "Area.shifted", defArgs s_Area_shifted, defBody s_Area_shifted, defScope s_Area_shifted, [.int 0, .int 0], []⟩
def d_Change_checked : He.DefD := ⟨("Change", some "checked"), "checked", "Change.checked", defArgs s_Change_checked, defBody s_Change_checked, defScope s_Change_checked, [], []⟩
def d_checked_changes : He.DefD := ⟨("checked_changes", none), "checked_changes", "checked_changes", defArgs s_checked_changes, defBody s_checked_changes, defScope s_checked_changes, [], []⟩
def d_area_behind : He.DefD := ⟨("area_behind", none), "area_behind", "area_behind", defArgs s_area_behind, defBody s_area_behind, defScope s_area_behind, [], []⟩
def d_check_value : He.DefD := ⟨("check_value", none), "check_value", "check_value", defArgs s_check_value, defBody s_check_value, defScope s_check_value, [], []⟩
def d_check_sheet : He.DefD := ⟨("check_sheet", none), "check_sheet", "check_sheet", defArgs s_check_sheet, defBody s_check_sheet, defScope s_check_sheet, [], []⟩
def d_first_of_part : He.DefD := ⟨("first_of_part", none), "first_of_part", "first_of_part", defArgs s_first_of_part, defBody s_first_of_part, defScope s_first_of_part, [], []⟩
def d_Sheet___init__ : He.DefD := ⟨("Sheet", some "__init__"), "__init__", "Sheet.__init__", defArgs s_Sheet___init__, defBody s_Sheet___init__, defScope s_Sheet___init__, [], []⟩
def d_Sheet___eq__ : He.DefD := ⟨("Sheet", some "__eq__"), "__eq__", "Sheet.__eq__", defArgs s_Sheet___eq__, defBody s_Sheet___eq__, defScope s_Sheet___eq__, [], []⟩
def d_Sheet___len__ : He.DefD := ⟨("Sheet", some "__len__"), "__len__", "Sheet.__len__", defArgs s_Sheet___len__, defBody s_Sheet___len__, defScope s_Sheet___len__, [], []⟩
def d_Sheet_fill : He.DefD := ⟨("Sheet", some "fill"), "fill", "Sheet.fill", defArgs s_Sheet_fill, defBody s_Sheet_fill, defScope s_Sheet_fill, [], []⟩
def d_Sheet_hold : He.DefD := ⟨("Sheet", some "hold"), "hold", "Sheet.hold", defArgs s_Sheet_hold, defBody s_Sheet_hold, defScope s_Sheet_hold, [], []⟩
def d_Sheet_value : He.DefD := ⟨("Sheet", some "value"), "value", "Sheet.value", defArgs s_Sheet_value, defBody s_Sheet_value, defScope s_Sheet_value, [], []⟩
def d_Sheet_where : He.DefD := ⟨("Sheet", some "where"), "where", "Sheet.where", defArgs s_Sheet_where, defBody s_Sheet_where, defScope s_Sheet_where, [], []⟩
def d_Sheet_told : He.DefD := ⟨("Sheet", some "told"), "told", "Sheet.told", defArgs s_Sheet_told, defBody s_Sheet_told, defScope s_Sheet_told, [], []⟩
def d_Sheet_pairs : He.DefD := ⟨("Sheet", some "pairs"), "pairs", "Sheet.pairs", defArgs s_Sheet_pairs, defBody s_Sheet_pairs, defScope s_Sheet_pairs, [], []⟩
def d_Sheet_change : He.DefD := ⟨("Sheet", some "change"), "change", "Sheet.change", defArgs s_Sheet_change, defBody s_Sheet_change, defScope s_Sheet_change, [], []⟩
def d_Sheet_laid : He.DefD := ⟨("Sheet", some "laid"), "laid", "Sheet.laid", defArgs s_Sheet_laid, defBody s_Sheet_laid, defScope s_Sheet_laid, [.int 0, .int 0], []⟩
def d_Sheet_twin : He.DefD := ⟨("Sheet", some "twin"), "twin", "Sheet.twin", defArgs s_Sheet_twin, defBody s_Sheet_twin, defScope s_Sheet_twin, [], []⟩
def d_unlike : He.DefD := ⟨("unlike", none), "unlike", "unlike", defArgs s_unlike, defBody s_unlike, defScope s_unlike, [], []⟩
def d_unlike_area : He.DefD := ⟨("unlike_area", none), "unlike_area", "unlike_area", defArgs s_unlike_area, defBody s_unlike_area, defScope s_unlike_area, [], []⟩
def d__law_cell_at : He.DefD := ⟨("_law_cell_at", none), "_law_cell_at", "_law_cell_at", defArgs s__law_cell_at, defBody s__law_cell_at, defScope s__law_cell_at, [], []⟩
def d__law_well : He.DefD := ⟨("_law_well", none), "_law_well", "_law_well", defArgs s__law_well, defBody s__law_well, defScope s__law_well, [], []⟩
def d__law_draw : He.DefD := ⟨("_law_draw", none), "_law_draw", "_law_draw", defArgs s__law_draw, defBody s__law_draw, defScope s__law_draw, [], []⟩
def d__law_said : He.DefD := ⟨("_law_said", none), "_law_said", "_law_said", defArgs s__law_said, defBody s__law_said, defScope s__law_said, [], []⟩
def d__law_no_value : He.DefD := ⟨("_law_no_value", none), "_law_no_value", "_law_no_value", defArgs s__law_no_value, defBody s__law_no_value, defScope s__law_no_value, [], []⟩
def d__law_refused_right : He.DefD := ⟨("_law_refused_right", none), "_law_refused_right", "_law_refused_right", defArgs s__law_refused_right, defBody s__law_refused_right, defScope s__law_refused_right, [], []⟩
def d_law : He.DefD := ⟨("law", none), "law", "law", defArgs s_law, defBody s_law, defScope s_law, [], []⟩
def fn_0 : List He.DefD := [d_is_whole, d_is_count, d_is_cell, d_checked_cell, d_checked_move, d_letters_of, d_is_end, d_is_rows, d_is_columns, d_letters_ahead, d_by_ends, d_Block___init__, d_Block___eq__, d_Block___str__, d_Block___repr__, d_Block_has, d_Block_size, d_row_text, d_column_text, d_is_at, d_stretches, d_cuts_of, d_with_run, d_runs_by, d_columns_at, d_bands_by, d_form_of, d_first_cell, d_either, d_both]
def fn_1 : List He.DefD := [d_one_alone, d_checked_blocks, d_checked_area, d_moved_ends, d_moved_block, d_Area___init__, d_Area___eq__, d_Area___len__, d_Area___str__, d_Area___repr__, d_Area_blocks, d_Area_firsts, d_Area_has, d_Area_size, d_Area_by, d_Area_met, d_Area_joined, d_Area_without, d_Area_others, d_Area_is_within, d_Area_meets, d_Area_turned, d_Area_shifted, d_Change_checked, d_checked_changes, d_area_behind, d_check_value, d_check_sheet, d_first_of_part, d_Sheet___init__]
def fn_2 : List He.DefD := [d_Sheet___eq__, d_Sheet___len__, d_Sheet_fill, d_Sheet_hold, d_Sheet_value, d_Sheet_where, d_Sheet_told, d_Sheet_pairs, d_Sheet_change, d_Sheet_laid, d_Sheet_twin, d_unlike, d_unlike_area, d__law_cell_at, d__law_well, d__law_draw, d__law_said, d__law_no_value, d__law_refused_right, d_law]
def fn : List He.DefD := fn_0 ++ (fn_1 ++ (fn_2))
def fa_0 : List He.Fa := [.glo "CellError", .glo "NoCell", .glo "NoColumn", .glo "NoBlock", .glo "NoArea", .glo "NoNumber", .glo "NoChange", .glo "NoValue", .glo "NoSheet", .glo "is_whole", .glo "is_count", .glo "is_cell", .glo "checked_cell", .glo "checked_move", .str "LETTERS" "ABCDEFGHIJKLMNOPQRSTUVWXYZ", .glo "letters_of", .glo "is_end", .glo "is_rows", .glo "is_columns", .glo "letters_ahead", .glo "by_ends", .glo "Block", .glo "row_text", .glo "column_text", .glo "is_at", .glo "stretches", .glo "cuts_of", .glo "with_run", .glo "runs_by", .glo "columns_at"]
def fa_1 : List He.Fa := [.glo "bands_by", .glo "form_of", .glo "first_cell", .glo "either", .glo "both", .glo "one_alone", .glo "checked_blocks", .glo "checked_area", .glo "moved_ends", .glo "moved_block", .glo "Area", .glo "Change", .glo "checked_changes", .glo "area_behind", .str "SIGNS" "abcdefghijklmnopqrstuvwxyz0123456789 ", .int "MOST" 40, .glo "check_value", .glo "check_sheet", .glo "first_of_part", .glo "Sheet", .glo "unlike", .glo "unlike_area", .glo "_law_cell_at", .glo "_law_well", .glo "_law_draw", .glo "_law_said", .glo "_law_no_value", .glo "_law_refused_right", .glo "law", .free "ValueError"]
def fa_2 : List He.Fa := [.free "all", .free "any", .free "bool", .free "divmod", .free "enumerate", .free "int", .free "isinstance", .free "len", .free "list", .free "max", .free "range", .free "set", .free "sorted", .free "str", .free "sum", .free "tuple", .free "zip", .exc "CellError", .exc "NoCell", .exc "NoColumn", .exc "NoBlock", .exc "NoArea", .exc "NoNumber", .exc "NoChange", .exc "NoValue", .exc "NoSheet", .cls "Block", .mkr "Block", .meth "Block" "__init__", .meth "Block" "__eq__"]
def fa_3 : List He.Fa := [.meth "Block" "__str__", .meth "Block" "__repr__", .meth "Block" "has", .meth "Block" "size", .noat "Block" "top", .noat "Block" "left", .noat "Block" "bottom", .noat "Block" "right", .cls "Area", .mkr "Area", .meth "Area" "__init__", .meth "Area" "__eq__", .meth "Area" "__len__", .meth "Area" "__str__", .meth "Area" "__repr__", .meth "Area" "blocks", .meth "Area" "firsts", .meth "Area" "has", .meth "Area" "size", .meth "Area" "by", .meth "Area" "met", .meth "Area" "joined", .meth "Area" "without", .meth "Area" "others", .meth "Area" "is_within", .meth "Area" "meets", .meth "Area" "turned", .meth "Area" "shifted", .noat "Area" "form", .cls "Change"]
def fa_4 : List He.Fa := [.meth "Change" "checked", .cls "Sheet", .mkr "Sheet", .meth "Sheet" "__init__", .meth "Sheet" "__eq__", .meth "Sheet" "__len__", .meth "Sheet" "fill", .meth "Sheet" "hold", .meth "Sheet" "value", .meth "Sheet" "where", .meth "Sheet" "told", .meth "Sheet" "pairs", .meth "Sheet" "change", .meth "Sheet" "laid", .meth "Sheet" "twin", .noat "Sheet" "held", .exm "CellError" "CellError" true, .exm "NoCell" "CellError" true, .exm "NoColumn" "CellError" true, .exm "NoBlock" "CellError" true, .exm "NoArea" "CellError" true, .exm "NoNumber" "CellError" true, .exm "NoChange" "CellError" true, .exm "NoValue" "CellError" true, .exm "NoSheet" "CellError" true]
def fa : List He.Fa := fa_0 ++ (fa_1 ++ (fa_2 ++ (fa_3 ++ (fa_4))))
def kcl_0 : List Str := ["Block", "Area", "Change", "Sheet"]
def kcl : List Str := kcl_0
def kio_0 : List (Str × Str × Bool) := [("Block", "Block", true), ("Block", "Area", false), ("Block", "Change", false), ("Block", "Sheet", false), ("Area", "Block", false), ("Area", "Area", true), ("Area", "Change", false), ("Area", "Sheet", false), ("Change", "Block", false), ("Change", "Area", false), ("Change", "Change", true), ("Change", "Sheet", false), ("Sheet", "Block", false), ("Sheet", "Area", false), ("Sheet", "Change", false), ("Sheet", "Sheet", true)]
def kio : List (Str × Str × Bool) := kio_0
def kib_0 : List (Str × String) := [("Block", "int"), ("Block", "bool"), ("Block", "str"), ("Block", "list"), ("Block", "tuple"), ("Block", "dict"), ("Area", "int"), ("Area", "bool"), ("Area", "str"), ("Area", "list"), ("Area", "tuple"), ("Area", "dict"), ("Change", "int"), ("Change", "bool"), ("Change", "str"), ("Change", "list"), ("Change", "tuple"), ("Change", "dict"), ("Sheet", "int"), ("Sheet", "bool"), ("Sheet", "str"), ("Sheet", "list"), ("Sheet", "tuple"), ("Sheet", "dict")]
def kib : List (Str × String) := kib_0
def kit_0 : List (String × Str) := [("int", "Block"), ("bool", "Block"), ("str", "Block"), ("list", "Block"), ("tuple", "Block"), ("dict", "Block"), ("NoneType", "Block"), ("int", "Area"), ("bool", "Area"), ("str", "Area"), ("list", "Area"), ("tuple", "Area"), ("dict", "Area"), ("NoneType", "Area"), ("int", "Change"), ("bool", "Change"), ("str", "Change"), ("list", "Change"), ("tuple", "Change"), ("dict", "Change"), ("NoneType", "Change"), ("int", "Sheet"), ("bool", "Sheet"), ("str", "Sheet"), ("list", "Sheet"), ("tuple", "Sheet"), ("dict", "Sheet"), ("NoneType", "Sheet")]
def kit : List (String × Str) := kit_0
def kne_0 : List Str := ["Block", "Area", "Sheet"]
def kne : List Str := kne_0
def kex_0 : List Str := ["CellError", "NoCell", "NoColumn", "NoBlock", "NoArea", "NoNumber", "NoChange", "NoValue", "NoSheet"]
def kex : List Str := kex_0
def kee_0 : List (Str × Str × Bool) := [("CellError", "CellError", true), ("CellError", "NoCell", false), ("CellError", "NoColumn", false), ("CellError", "NoBlock", false), ("CellError", "NoArea", false), ("CellError", "NoNumber", false), ("CellError", "NoChange", false), ("CellError", "NoValue", false), ("CellError", "NoSheet", false), ("NoCell", "CellError", true), ("NoCell", "NoCell", true), ("NoCell", "NoColumn", false), ("NoCell", "NoBlock", false), ("NoCell", "NoArea", false), ("NoCell", "NoNumber", false), ("NoCell", "NoChange", false), ("NoCell", "NoValue", false), ("NoCell", "NoSheet", false), ("NoColumn", "CellError", true), ("NoColumn", "NoCell", false), ("NoColumn", "NoColumn", true), ("NoColumn", "NoBlock", false), ("NoColumn", "NoArea", false), ("NoColumn", "NoNumber", false), ("NoColumn", "NoChange", false), ("NoColumn", "NoValue", false), ("NoColumn", "NoSheet", false), ("NoBlock", "CellError", true), ("NoBlock", "NoCell", false), ("NoBlock", "NoColumn", false)]
def kee_1 : List (Str × Str × Bool) := [("NoBlock", "NoBlock", true), ("NoBlock", "NoArea", false), ("NoBlock", "NoNumber", false), ("NoBlock", "NoChange", false), ("NoBlock", "NoValue", false), ("NoBlock", "NoSheet", false), ("NoArea", "CellError", true), ("NoArea", "NoCell", false), ("NoArea", "NoColumn", false), ("NoArea", "NoBlock", false), ("NoArea", "NoArea", true), ("NoArea", "NoNumber", false), ("NoArea", "NoChange", false), ("NoArea", "NoValue", false), ("NoArea", "NoSheet", false), ("NoNumber", "CellError", true), ("NoNumber", "NoCell", false), ("NoNumber", "NoColumn", false), ("NoNumber", "NoBlock", false), ("NoNumber", "NoArea", false), ("NoNumber", "NoNumber", true), ("NoNumber", "NoChange", false), ("NoNumber", "NoValue", false), ("NoNumber", "NoSheet", false), ("NoChange", "CellError", true), ("NoChange", "NoCell", false), ("NoChange", "NoColumn", false), ("NoChange", "NoBlock", false), ("NoChange", "NoArea", false), ("NoChange", "NoNumber", false)]
def kee_2 : List (Str × Str × Bool) := [("NoChange", "NoChange", true), ("NoChange", "NoValue", false), ("NoChange", "NoSheet", false), ("NoValue", "CellError", true), ("NoValue", "NoCell", false), ("NoValue", "NoColumn", false), ("NoValue", "NoBlock", false), ("NoValue", "NoArea", false), ("NoValue", "NoNumber", false), ("NoValue", "NoChange", false), ("NoValue", "NoValue", true), ("NoValue", "NoSheet", false), ("NoSheet", "CellError", true), ("NoSheet", "NoCell", false), ("NoSheet", "NoColumn", false), ("NoSheet", "NoBlock", false), ("NoSheet", "NoArea", false), ("NoSheet", "NoNumber", false), ("NoSheet", "NoChange", false), ("NoSheet", "NoValue", false), ("NoSheet", "NoSheet", true)]
def kee : List (Str × Str × Bool) := kee_0 ++ (kee_1 ++ (kee_2))
def adrs_0 : List Addr := [3, 31, 30, 44, 43, 56, 55, 68, 67, 80, 79, 92, 91, 104, 103, 116, 115, 128, 127, 256, 255, 506, 505, 527, 526, 651, 650, 213, 214, 382, 383, 496, 497, 636, 637, 21, 20, 137, 136, 144, 143, 149, 148, 156, 155, 163, 162, 170, 169, 177, 176, 184, 183, 191, 190, 198, 197, 205, 204, 220]
def adrs_1 : List Addr := [219, 227, 226, 232, 231, 239, 238, 246, 245, 253, 252, 267, 266, 274, 273, 281, 280, 288, 287, 293, 292, 300, 299, 305, 304, 310, 309, 315, 314, 320, 319, 327, 326, 334, 333, 341, 340, 348, 347, 353, 352, 360, 359, 367, 366, 374, 373, 389, 388, 396, 395, 403, 402, 408, 407, 415, 414, 422, 421, 429]
def adrs_2 : List Addr := [428, 434, 433, 439, 438, 446, 445, 453, 452, 460, 459, 467, 466, 474, 473, 481, 480, 488, 487, 495, 494, 503, 502, 524, 523, 536, 535, 543, 542, 548, 547, 555, 554, 562, 561, 576, 575, 583, 582, 590, 589, 597, 596, 604, 603, 609, 608, 616, 615, 623, 622, 628, 627, 635, 634, 641, 640, 648, 647, 660]
def adrs_3 : List Addr := [659, 665, 664, 672, 671, 679, 678, 686, 685, 691, 690, 698, 697, 705, 704, 712, 711]
def adrs : List Addr := adrs_0 ++ (adrs_1 ++ (adrs_2 ++ (adrs_3)))
def extra1 (K : PySem.W.Frag) : Bool := ((kcl.all fun z => decide (PySem.W.findIn K (.ref (He.ga K z)) "__class__" = some (some (.builtin "object.__class__"))) && decide (PySem.W.mroIn K (He.ga K z) (.type "object") = some true)) && (decide (PySem.W.specialIn K (.builtin "object.__class__") "__get__" = some (some (.builtin "getset_descriptor.__get__"))) && decide (PySem.W.takesIn K (.builtin "object.__class__") = some true))) && ((kio.all fun z => decide (PySem.W.kitOne K (.ref (He.ga K z.1)) (.ref (He.ga K z.2.1)) = some z.2.2)) && ((kib.all fun z => decide (PySem.W.kitOne K (.ref (He.ga K z.1)) (.type z.2) = some false)) && kit.all fun z => decide (PySem.W.kitOne K (.type z.1) (.ref (He.ga K z.2)) = some false)))
def extra2 (K : PySem.W.Frag) : Bool := (kne.all fun z => decide (PySem.W.findIn K (.ref (He.ga K z)) "__ne__" = some (some (.builtin "object.__ne__"))) && decide (PySem.W.subIn K (.ref (He.ga K z)) (.type "object") = some true)) && ((kex.all fun z => ((decide (PySem.W.findIn K (.ref (He.ga K z)) "__getattribute__" = some (some (.builtin "BaseException.__getattribute__"))) && decide (PySem.W.findIn K (.ref (He.ga K z)) "__getattr__" = some none)) && (decide (PySem.W.subIn K (.ref (He.ga K z)) (.type "BaseException") = some true) && decide (PySem.W.hasDictIn K (He.ga K z) = true))) && ((decide (PySem.W.findIn K (.ref (He.ga K z)) "__class__" = some (some (.builtin "object.__class__"))) && decide (PySem.W.specialIn K (.builtin "object.__class__") "__get__" = some (some (.builtin "getset_descriptor.__get__")))) && (decide (PySem.W.takesIn K (.builtin "object.__class__") = some true) && decide (PySem.W.mroIn K (He.ga K z) (.type "object") = some true)))) && ((kee.all fun z => decide (PySem.W.kitOne K (.ref (He.ga K z.1)) (.ref (He.ga K z.2.1)) = some z.2.2)) && (kex.all fun z => decide (PySem.W.kitOne K (.ref (He.ga K z)) (.type "ValueError") = some true))))
def extra (K : PySem.W.Frag) : Bool := extra1 K && extra2 K
abbrev Obs : Type := Bool × He.AlD
def obsX (K : PySem.W.Frag) : Obs := (extra K, He.obsD fa fn K)
def valX : Obs := (true, He.valD fn)
def Says (K : PySem.W.Frag) : Prop := obsX K = valX
def obsG (g : Addr → Option Obj) : Obs := obsX (He.frG g adrs)
def hook : PySem.W.Hook where
  α := Obs
  obs := fun s => obsG s.heap.get?
  val := fun _ => valX
  says := fun _ h => ∃ K : PySem.W.Frag, K.In h ∧ Says K
  of := fun _ _ e => ⟨_, He.frG_in, e⟩
  keeps := fun _ _ _ ⟨K, hK, c⟩ k => ⟨K, PySem.W.Frag.In.keeps hK k, c⟩
theorem obsG_eq {g : Addr → Option Obj} {s : Shared} (h : ∀ a, g a = s.heap.get? a) : obsG g = obsG s.heap.get? := by
  have e : g = s.heap.get? := funext h
  rw [e]
def names_0 : List Str := ["_wall", "CellError", "NoCell", "NoColumn", "NoBlock", "NoArea", "NoNumber", "NoChange", "NoValue", "NoSheet", "is_whole", "is_count", "is_cell", "checked_cell", "checked_move", "LETTERS", "letters_of", "is_end", "is_rows", "is_columns", "letters_ahead", "by_ends", "Block", "row_text", "column_text", "is_at", "stretches", "cuts_of", "with_run", "runs_by"]
def names_1 : List Str := ["columns_at", "bands_by", "form_of", "first_cell", "either", "both", "one_alone", "checked_blocks", "checked_area", "moved_ends", "moved_block", "Area", "Change", "checked_changes", "area_behind", "SIGNS", "MOST", "check_value", "check_sheet", "first_of_part", "Sheet", "unlike", "unlike_area", "_law_cell_at", "_law_well", "_law_draw", "_law_said", "_law_no_value", "_law_refused_right"]
def names : List Str := names_0 ++ (names_1)
abbrev R : PySem.W.OpenRow := PySem.W.OpenLaw.row PySem.Challenge.rw_cellblocks_k62_what_sheets_refuse
def ob (s : PySem.W.SharedT) : Obs := obsG (HandSHeadRun.getT s)
theorem ob_eq (s : PySem.W.SharedT) : ob s = hook.obs s.abs := obsG_eq (HandSHeadRun.getT_eq s)
theorem run (w : World) : HandSHeadRun.RunEq R (PySem.W.view R.prog [67]) hook ob 6000 names w := by
  intro os
  kernel_rfl
end GT


/-! ## K62Txt -/
set_option Elab.async false
set_option linter.all false
set_option maxRecDepth 100000
namespace GT
open PySem PySem.Spec PyProof.Rows L2
/-- what the top leaves, by names -/
structure TX (K : PySem.W.Frag) (mg : Str → Option Value) : Prop where
  ex : ∃ h : Heap, K.In h ∧ h.Ns mainGlobals mg
  c : Says K
section
variable {K : PySem.W.Frag} {mg : Str → Option Value}
theorem TX.fact (T : TX K mg) (i : Nat) {f : He.Fa} (h : fa[i]? = some f) : f.ok K = true := He.SaysD.fact (show He.SaysD fa fn K from congrArg (fun z : Obs => z.2) T.c) i h
theorem TX.def_ (T : TX K mg) (i : Nat) {d : He.DefD} (h : fn[i]? = some d) : ∃ fd, FunD K d.name d.qual d.params d.body d.scope (d.dvs K) (d.kws K) (He.fAd K d.at_) fd := He.SaysD.def_ (show He.SaysD fa fn K from congrArg (fun z : Obs => z.2) T.c) i h
theorem TX.ext (T : TX K mg) : extra K = true := congrArg (fun z : Obs => z.1) T.c
theorem TX.ext1 (T : TX K mg) : extra1 K = true := (He.ba T.ext).1
theorem TX.ext2 (T : TX K mg) : extra2 K = true := (He.ba T.ext).2
theorem TX.kneT (T : TX K mg) (i : Nat) {z : Str} (h : kne[i]? = some z) : PySem.W.findIn K (.ref (He.ga K z)) "__ne__" = some (some (.builtin "object.__ne__")) ∧ PySem.W.subIn K (.ref (He.ga K z)) (.type "object") = some true := by
  have e := T.ext2
  unfold extra2 at e
  have e1 := He.ba (List.all_eq_true.mp (He.ba e).1 z (List.mem_of_getElem? h))
  exact ⟨of_decide_eq_true e1.1, of_decide_eq_true e1.2⟩
theorem TX.kexT (T : TX K mg) (i : Nat) {z : Str} (h : kex[i]? = some z) : ExcC K (He.ga K z) := by
  have e := T.ext2
  unfold extra2 at e
  have e1 := He.ba (List.all_eq_true.mp (He.ba (He.ba e).2).1 z (List.mem_of_getElem? h))
  have a1 := He.ba (He.ba e1.1).1
  have a2 := He.ba (He.ba e1.1).2
  have a3 := He.ba (He.ba e1.2).1
  have a4 := He.ba (He.ba e1.2).2
  exact ⟨of_decide_eq_true a1.1, of_decide_eq_true a1.2, of_decide_eq_true a2.1, of_decide_eq_true a2.2, of_decide_eq_true a3.1, of_decide_eq_true a3.2, of_decide_eq_true a4.1, of_decide_eq_true a4.2⟩
theorem TX.keeT (T : TX K mg) (i : Nat) {z : Str × Str × Bool} (h : kee[i]? = some z) : PySem.W.kitOne K (.ref (He.ga K z.1)) (.ref (He.ga K z.2.1)) = some z.2.2 := by
  have e := T.ext2
  unfold extra2 at e
  exact of_decide_eq_true (List.all_eq_true.mp (He.ba (He.ba (He.ba e).2).2).1 z (List.mem_of_getElem? h))
theorem TX.kev (T : TX K mg) (i : Nat) {z : Str} (h : kex[i]? = some z) : PySem.W.kitOne K (.ref (He.ga K z)) (.type "ValueError") = some true := by
  have e := T.ext2
  unfold extra2 at e
  exact of_decide_eq_true (List.all_eq_true.mp (He.ba (He.ba (He.ba e).2).2).2 z (List.mem_of_getElem? h))
def fdO (K : PySem.W.Frag) (a : Addr) : FuncData := match K.lookup a with
  | some ⟨_, _, .func fd, _⟩ => fd
  | _ => default
theorem fdO_of {x qual : Str} {params : Arguments} {body : List Stmt} {scope : Scope} {dvs : List V} {kws : List (Str × V)} {a : Addr} (h : ∃ fd, FunD K x qual params body scope dvs kws a fd) : FunD K x qual params body scope dvs kws a (fdO K a) := by
  obtain ⟨fd, F⟩ := h
  obtain ⟨oc, od, dV, kV, doc, pm, an, cdv, ct, osl, e, lk, _⟩ := F.ex
  have z : fdO K a = fd := by unfold fdO; rw [lk]
  rw [z]; exact F
theorem TX.kio (T : TX K mg) (i : Nat) {z : Str × Str × Bool} (h : kio[i]? = some z) : PySem.W.kitOne K (.ref (He.ga K z.1)) (.ref (He.ga K z.2.1)) = some z.2.2 := by
  have e := T.ext1
  unfold extra1 at e
  exact of_decide_eq_true (List.all_eq_true.mp (He.ba (He.ba e).2).1 z (List.mem_of_getElem? h))
theorem TX.kib (T : TX K mg) (i : Nat) {z : Str × String} (h : kib[i]? = some z) : PySem.W.kitOne K (.ref (He.ga K z.1)) (.type z.2) = some false := by
  have e := T.ext1
  unfold extra1 at e
  exact of_decide_eq_true (List.all_eq_true.mp (He.ba (He.ba (He.ba e).2).2).1 z (List.mem_of_getElem? h))
theorem TX.kit (T : TX K mg) (i : Nat) {z : String × Str} (h : kit[i]? = some z) : PySem.W.kitOne K (.type z.1) (.ref (He.ga K z.2)) = some false := by
  have e := T.ext1
  unfold extra1 at e
  exact of_decide_eq_true (List.all_eq_true.mp (He.ba (He.ba (He.ba e).2).2).2 z (List.mem_of_getElem? h))
theorem TX.kcl (T : TX K mg) (i : Nat) {z : Str} (h : kcl[i]? = some z) {H : Hp} {a dx : Addr} {fs : List (Str × V)} (c : Cls K (He.ga K z)) (ha : H a = some (.ins (He.ga K z) dx fs)) : TyX K H (.ref a) (.ref (He.ga K z)) := by
  have e := T.ext1
  unfold extra1 at e
  have e1 := (He.ba (He.ba e).1).1
  have e2 := He.ba (He.ba (He.ba e).1).2
  have e3 := He.ba (List.all_eq_true.mp e1 z (List.mem_of_getElem? h))
  exact .base (.ins ha c (of_decide_eq_true e3.1) (of_decide_eq_true e2.1) (of_decide_eq_true e2.2) (of_decide_eq_true e3.2))
theorem g_CellError (T : TX K mg) : mg "CellError" = some (.ref (He.ga K "CellError")) := let ⟨_, X, G⟩ := T.ex; He.glo_ok X G (T.fact 0 (f := .glo "CellError") rfl)
theorem g_NoCell (T : TX K mg) : mg "NoCell" = some (.ref (He.ga K "NoCell")) := let ⟨_, X, G⟩ := T.ex; He.glo_ok X G (T.fact 1 (f := .glo "NoCell") rfl)
theorem g_NoColumn (T : TX K mg) : mg "NoColumn" = some (.ref (He.ga K "NoColumn")) := let ⟨_, X, G⟩ := T.ex; He.glo_ok X G (T.fact 2 (f := .glo "NoColumn") rfl)
theorem g_NoBlock (T : TX K mg) : mg "NoBlock" = some (.ref (He.ga K "NoBlock")) := let ⟨_, X, G⟩ := T.ex; He.glo_ok X G (T.fact 3 (f := .glo "NoBlock") rfl)
theorem g_NoArea (T : TX K mg) : mg "NoArea" = some (.ref (He.ga K "NoArea")) := let ⟨_, X, G⟩ := T.ex; He.glo_ok X G (T.fact 4 (f := .glo "NoArea") rfl)
theorem g_NoNumber (T : TX K mg) : mg "NoNumber" = some (.ref (He.ga K "NoNumber")) := let ⟨_, X, G⟩ := T.ex; He.glo_ok X G (T.fact 5 (f := .glo "NoNumber") rfl)
theorem g_NoChange (T : TX K mg) : mg "NoChange" = some (.ref (He.ga K "NoChange")) := let ⟨_, X, G⟩ := T.ex; He.glo_ok X G (T.fact 6 (f := .glo "NoChange") rfl)
theorem g_NoValue (T : TX K mg) : mg "NoValue" = some (.ref (He.ga K "NoValue")) := let ⟨_, X, G⟩ := T.ex; He.glo_ok X G (T.fact 7 (f := .glo "NoValue") rfl)
theorem g_NoSheet (T : TX K mg) : mg "NoSheet" = some (.ref (He.ga K "NoSheet")) := let ⟨_, X, G⟩ := T.ex; He.glo_ok X G (T.fact 8 (f := .glo "NoSheet") rfl)
theorem g_is_whole (T : TX K mg) : mg "is_whole" = some (.ref (He.ga K "is_whole")) := let ⟨_, X, G⟩ := T.ex; He.glo_ok X G (T.fact 9 (f := .glo "is_whole") rfl)
theorem g_is_count (T : TX K mg) : mg "is_count" = some (.ref (He.ga K "is_count")) := let ⟨_, X, G⟩ := T.ex; He.glo_ok X G (T.fact 10 (f := .glo "is_count") rfl)
theorem g_is_cell (T : TX K mg) : mg "is_cell" = some (.ref (He.ga K "is_cell")) := let ⟨_, X, G⟩ := T.ex; He.glo_ok X G (T.fact 11 (f := .glo "is_cell") rfl)
theorem g_checked_cell (T : TX K mg) : mg "checked_cell" = some (.ref (He.ga K "checked_cell")) := let ⟨_, X, G⟩ := T.ex; He.glo_ok X G (T.fact 12 (f := .glo "checked_cell") rfl)
theorem g_checked_move (T : TX K mg) : mg "checked_move" = some (.ref (He.ga K "checked_move")) := let ⟨_, X, G⟩ := T.ex; He.glo_ok X G (T.fact 13 (f := .glo "checked_move") rfl)
theorem c_LETTERS (T : TX K mg) : ∃ t, mg "LETTERS" = some (.str "ABCDEFGHIJKLMNOPQRSTUVWXYZ" t) := let ⟨_, X, G⟩ := T.ex; He.str_ok X G (T.fact 14 (f := .str "LETTERS" "ABCDEFGHIJKLMNOPQRSTUVWXYZ") rfl)
theorem g_letters_of (T : TX K mg) : mg "letters_of" = some (.ref (He.ga K "letters_of")) := let ⟨_, X, G⟩ := T.ex; He.glo_ok X G (T.fact 15 (f := .glo "letters_of") rfl)
theorem g_is_end (T : TX K mg) : mg "is_end" = some (.ref (He.ga K "is_end")) := let ⟨_, X, G⟩ := T.ex; He.glo_ok X G (T.fact 16 (f := .glo "is_end") rfl)
theorem g_is_rows (T : TX K mg) : mg "is_rows" = some (.ref (He.ga K "is_rows")) := let ⟨_, X, G⟩ := T.ex; He.glo_ok X G (T.fact 17 (f := .glo "is_rows") rfl)
theorem g_is_columns (T : TX K mg) : mg "is_columns" = some (.ref (He.ga K "is_columns")) := let ⟨_, X, G⟩ := T.ex; He.glo_ok X G (T.fact 18 (f := .glo "is_columns") rfl)
theorem g_letters_ahead (T : TX K mg) : mg "letters_ahead" = some (.ref (He.ga K "letters_ahead")) := let ⟨_, X, G⟩ := T.ex; He.glo_ok X G (T.fact 19 (f := .glo "letters_ahead") rfl)
theorem g_by_ends (T : TX K mg) : mg "by_ends" = some (.ref (He.ga K "by_ends")) := let ⟨_, X, G⟩ := T.ex; He.glo_ok X G (T.fact 20 (f := .glo "by_ends") rfl)
theorem g_Block (T : TX K mg) : mg "Block" = some (.ref (He.ga K "Block")) := let ⟨_, X, G⟩ := T.ex; He.glo_ok X G (T.fact 21 (f := .glo "Block") rfl)
theorem g_row_text (T : TX K mg) : mg "row_text" = some (.ref (He.ga K "row_text")) := let ⟨_, X, G⟩ := T.ex; He.glo_ok X G (T.fact 22 (f := .glo "row_text") rfl)
theorem g_column_text (T : TX K mg) : mg "column_text" = some (.ref (He.ga K "column_text")) := let ⟨_, X, G⟩ := T.ex; He.glo_ok X G (T.fact 23 (f := .glo "column_text") rfl)
theorem g_is_at (T : TX K mg) : mg "is_at" = some (.ref (He.ga K "is_at")) := let ⟨_, X, G⟩ := T.ex; He.glo_ok X G (T.fact 24 (f := .glo "is_at") rfl)
theorem g_stretches (T : TX K mg) : mg "stretches" = some (.ref (He.ga K "stretches")) := let ⟨_, X, G⟩ := T.ex; He.glo_ok X G (T.fact 25 (f := .glo "stretches") rfl)
theorem g_cuts_of (T : TX K mg) : mg "cuts_of" = some (.ref (He.ga K "cuts_of")) := let ⟨_, X, G⟩ := T.ex; He.glo_ok X G (T.fact 26 (f := .glo "cuts_of") rfl)
theorem g_with_run (T : TX K mg) : mg "with_run" = some (.ref (He.ga K "with_run")) := let ⟨_, X, G⟩ := T.ex; He.glo_ok X G (T.fact 27 (f := .glo "with_run") rfl)
theorem g_runs_by (T : TX K mg) : mg "runs_by" = some (.ref (He.ga K "runs_by")) := let ⟨_, X, G⟩ := T.ex; He.glo_ok X G (T.fact 28 (f := .glo "runs_by") rfl)
theorem g_columns_at (T : TX K mg) : mg "columns_at" = some (.ref (He.ga K "columns_at")) := let ⟨_, X, G⟩ := T.ex; He.glo_ok X G (T.fact 29 (f := .glo "columns_at") rfl)
theorem g_bands_by (T : TX K mg) : mg "bands_by" = some (.ref (He.ga K "bands_by")) := let ⟨_, X, G⟩ := T.ex; He.glo_ok X G (T.fact 30 (f := .glo "bands_by") rfl)
theorem g_form_of (T : TX K mg) : mg "form_of" = some (.ref (He.ga K "form_of")) := let ⟨_, X, G⟩ := T.ex; He.glo_ok X G (T.fact 31 (f := .glo "form_of") rfl)
theorem g_first_cell (T : TX K mg) : mg "first_cell" = some (.ref (He.ga K "first_cell")) := let ⟨_, X, G⟩ := T.ex; He.glo_ok X G (T.fact 32 (f := .glo "first_cell") rfl)
theorem g_either (T : TX K mg) : mg "either" = some (.ref (He.ga K "either")) := let ⟨_, X, G⟩ := T.ex; He.glo_ok X G (T.fact 33 (f := .glo "either") rfl)
theorem g_both (T : TX K mg) : mg "both" = some (.ref (He.ga K "both")) := let ⟨_, X, G⟩ := T.ex; He.glo_ok X G (T.fact 34 (f := .glo "both") rfl)
theorem g_one_alone (T : TX K mg) : mg "one_alone" = some (.ref (He.ga K "one_alone")) := let ⟨_, X, G⟩ := T.ex; He.glo_ok X G (T.fact 35 (f := .glo "one_alone") rfl)
theorem g_checked_blocks (T : TX K mg) : mg "checked_blocks" = some (.ref (He.ga K "checked_blocks")) := let ⟨_, X, G⟩ := T.ex; He.glo_ok X G (T.fact 36 (f := .glo "checked_blocks") rfl)
theorem g_checked_area (T : TX K mg) : mg "checked_area" = some (.ref (He.ga K "checked_area")) := let ⟨_, X, G⟩ := T.ex; He.glo_ok X G (T.fact 37 (f := .glo "checked_area") rfl)
theorem g_moved_ends (T : TX K mg) : mg "moved_ends" = some (.ref (He.ga K "moved_ends")) := let ⟨_, X, G⟩ := T.ex; He.glo_ok X G (T.fact 38 (f := .glo "moved_ends") rfl)
theorem g_moved_block (T : TX K mg) : mg "moved_block" = some (.ref (He.ga K "moved_block")) := let ⟨_, X, G⟩ := T.ex; He.glo_ok X G (T.fact 39 (f := .glo "moved_block") rfl)
theorem g_Area (T : TX K mg) : mg "Area" = some (.ref (He.ga K "Area")) := let ⟨_, X, G⟩ := T.ex; He.glo_ok X G (T.fact 40 (f := .glo "Area") rfl)
theorem g_Change (T : TX K mg) : mg "Change" = some (.ref (He.ga K "Change")) := let ⟨_, X, G⟩ := T.ex; He.glo_ok X G (T.fact 41 (f := .glo "Change") rfl)
theorem g_checked_changes (T : TX K mg) : mg "checked_changes" = some (.ref (He.ga K "checked_changes")) := let ⟨_, X, G⟩ := T.ex; He.glo_ok X G (T.fact 42 (f := .glo "checked_changes") rfl)
theorem g_area_behind (T : TX K mg) : mg "area_behind" = some (.ref (He.ga K "area_behind")) := let ⟨_, X, G⟩ := T.ex; He.glo_ok X G (T.fact 43 (f := .glo "area_behind") rfl)
theorem c_SIGNS (T : TX K mg) : ∃ t, mg "SIGNS" = some (.str "abcdefghijklmnopqrstuvwxyz0123456789 " t) := let ⟨_, X, G⟩ := T.ex; He.str_ok X G (T.fact 44 (f := .str "SIGNS" "abcdefghijklmnopqrstuvwxyz0123456789 ") rfl)
theorem c_MOST (T : TX K mg) : ∃ t, mg "MOST" = some (.int 40 t) := let ⟨_, X, G⟩ := T.ex; He.int_ok X G (T.fact 45 (f := .int "MOST" 40) rfl)
theorem g_check_value (T : TX K mg) : mg "check_value" = some (.ref (He.ga K "check_value")) := let ⟨_, X, G⟩ := T.ex; He.glo_ok X G (T.fact 46 (f := .glo "check_value") rfl)
theorem g_check_sheet (T : TX K mg) : mg "check_sheet" = some (.ref (He.ga K "check_sheet")) := let ⟨_, X, G⟩ := T.ex; He.glo_ok X G (T.fact 47 (f := .glo "check_sheet") rfl)
theorem g_first_of_part (T : TX K mg) : mg "first_of_part" = some (.ref (He.ga K "first_of_part")) := let ⟨_, X, G⟩ := T.ex; He.glo_ok X G (T.fact 48 (f := .glo "first_of_part") rfl)
theorem g_Sheet (T : TX K mg) : mg "Sheet" = some (.ref (He.ga K "Sheet")) := let ⟨_, X, G⟩ := T.ex; He.glo_ok X G (T.fact 49 (f := .glo "Sheet") rfl)
theorem g_unlike (T : TX K mg) : mg "unlike" = some (.ref (He.ga K "unlike")) := let ⟨_, X, G⟩ := T.ex; He.glo_ok X G (T.fact 50 (f := .glo "unlike") rfl)
theorem g_unlike_area (T : TX K mg) : mg "unlike_area" = some (.ref (He.ga K "unlike_area")) := let ⟨_, X, G⟩ := T.ex; He.glo_ok X G (T.fact 51 (f := .glo "unlike_area") rfl)
theorem g__law_cell_at (T : TX K mg) : mg "_law_cell_at" = some (.ref (He.ga K "_law_cell_at")) := let ⟨_, X, G⟩ := T.ex; He.glo_ok X G (T.fact 52 (f := .glo "_law_cell_at") rfl)
theorem g__law_well (T : TX K mg) : mg "_law_well" = some (.ref (He.ga K "_law_well")) := let ⟨_, X, G⟩ := T.ex; He.glo_ok X G (T.fact 53 (f := .glo "_law_well") rfl)
theorem g__law_draw (T : TX K mg) : mg "_law_draw" = some (.ref (He.ga K "_law_draw")) := let ⟨_, X, G⟩ := T.ex; He.glo_ok X G (T.fact 54 (f := .glo "_law_draw") rfl)
theorem g__law_said (T : TX K mg) : mg "_law_said" = some (.ref (He.ga K "_law_said")) := let ⟨_, X, G⟩ := T.ex; He.glo_ok X G (T.fact 55 (f := .glo "_law_said") rfl)
theorem g__law_no_value (T : TX K mg) : mg "_law_no_value" = some (.ref (He.ga K "_law_no_value")) := let ⟨_, X, G⟩ := T.ex; He.glo_ok X G (T.fact 56 (f := .glo "_law_no_value") rfl)
theorem g__law_refused_right (T : TX K mg) : mg "_law_refused_right" = some (.ref (He.ga K "_law_refused_right")) := let ⟨_, X, G⟩ := T.ex; He.glo_ok X G (T.fact 57 (f := .glo "_law_refused_right") rfl)
theorem g_law (T : TX K mg) : mg "law" = some (.ref (He.ga K "law")) := let ⟨_, X, G⟩ := T.ex; He.glo_ok X G (T.fact 58 (f := .glo "law") rfl)
theorem z_ValueError (T : TX K mg) : mg "ValueError" = none := let ⟨_, X, G⟩ := T.ex; He.free_ok X G (T.fact 59 (f := .free "ValueError") rfl)
theorem z_all (T : TX K mg) : mg "all" = none := let ⟨_, X, G⟩ := T.ex; He.free_ok X G (T.fact 60 (f := .free "all") rfl)
theorem z_any (T : TX K mg) : mg "any" = none := let ⟨_, X, G⟩ := T.ex; He.free_ok X G (T.fact 61 (f := .free "any") rfl)
theorem z_bool (T : TX K mg) : mg "bool" = none := let ⟨_, X, G⟩ := T.ex; He.free_ok X G (T.fact 62 (f := .free "bool") rfl)
theorem z_divmod (T : TX K mg) : mg "divmod" = none := let ⟨_, X, G⟩ := T.ex; He.free_ok X G (T.fact 63 (f := .free "divmod") rfl)
theorem z_enumerate (T : TX K mg) : mg "enumerate" = none := let ⟨_, X, G⟩ := T.ex; He.free_ok X G (T.fact 64 (f := .free "enumerate") rfl)
theorem z_int (T : TX K mg) : mg "int" = none := let ⟨_, X, G⟩ := T.ex; He.free_ok X G (T.fact 65 (f := .free "int") rfl)
theorem z_isinstance (T : TX K mg) : mg "isinstance" = none := let ⟨_, X, G⟩ := T.ex; He.free_ok X G (T.fact 66 (f := .free "isinstance") rfl)
theorem z_len (T : TX K mg) : mg "len" = none := let ⟨_, X, G⟩ := T.ex; He.free_ok X G (T.fact 67 (f := .free "len") rfl)
theorem z_list (T : TX K mg) : mg "list" = none := let ⟨_, X, G⟩ := T.ex; He.free_ok X G (T.fact 68 (f := .free "list") rfl)
theorem z_max (T : TX K mg) : mg "max" = none := let ⟨_, X, G⟩ := T.ex; He.free_ok X G (T.fact 69 (f := .free "max") rfl)
theorem z_range (T : TX K mg) : mg "range" = none := let ⟨_, X, G⟩ := T.ex; He.free_ok X G (T.fact 70 (f := .free "range") rfl)
theorem z_set (T : TX K mg) : mg "set" = none := let ⟨_, X, G⟩ := T.ex; He.free_ok X G (T.fact 71 (f := .free "set") rfl)
theorem z_sorted (T : TX K mg) : mg "sorted" = none := let ⟨_, X, G⟩ := T.ex; He.free_ok X G (T.fact 72 (f := .free "sorted") rfl)
theorem z_str (T : TX K mg) : mg "str" = none := let ⟨_, X, G⟩ := T.ex; He.free_ok X G (T.fact 73 (f := .free "str") rfl)
theorem z_sum (T : TX K mg) : mg "sum" = none := let ⟨_, X, G⟩ := T.ex; He.free_ok X G (T.fact 74 (f := .free "sum") rfl)
theorem z_tuple (T : TX K mg) : mg "tuple" = none := let ⟨_, X, G⟩ := T.ex; He.free_ok X G (T.fact 75 (f := .free "tuple") rfl)
theorem z_zip (T : TX K mg) : mg "zip" = none := let ⟨_, X, G⟩ := T.ex; He.free_ok X G (T.fact 76 (f := .free "zip") rfl)
theorem e_CellError (T : TX K mg) : PySem.W.excIn K (He.ga K "CellError") He.veBase "ValueError.__new__" = true ∧ PySem.W.keepIn K (.ref (He.ga K "CellError")) = true ∧ PySem.W.subIn K (.ref (He.ga K "CellError")) (.type "BaseException") = some true ∧ PySem.W.typeIn K (.ref (He.ga K "CellError")) = some (.type "type") := He.exc_ok (T.fact 77 (f := .exc "CellError") rfl)
theorem e_NoCell (T : TX K mg) : PySem.W.excIn K (He.ga K "NoCell") He.veBase "ValueError.__new__" = true ∧ PySem.W.keepIn K (.ref (He.ga K "NoCell")) = true ∧ PySem.W.subIn K (.ref (He.ga K "NoCell")) (.type "BaseException") = some true ∧ PySem.W.typeIn K (.ref (He.ga K "NoCell")) = some (.type "type") := He.exc_ok (T.fact 78 (f := .exc "NoCell") rfl)
theorem e_NoColumn (T : TX K mg) : PySem.W.excIn K (He.ga K "NoColumn") He.veBase "ValueError.__new__" = true ∧ PySem.W.keepIn K (.ref (He.ga K "NoColumn")) = true ∧ PySem.W.subIn K (.ref (He.ga K "NoColumn")) (.type "BaseException") = some true ∧ PySem.W.typeIn K (.ref (He.ga K "NoColumn")) = some (.type "type") := He.exc_ok (T.fact 79 (f := .exc "NoColumn") rfl)
theorem e_NoBlock (T : TX K mg) : PySem.W.excIn K (He.ga K "NoBlock") He.veBase "ValueError.__new__" = true ∧ PySem.W.keepIn K (.ref (He.ga K "NoBlock")) = true ∧ PySem.W.subIn K (.ref (He.ga K "NoBlock")) (.type "BaseException") = some true ∧ PySem.W.typeIn K (.ref (He.ga K "NoBlock")) = some (.type "type") := He.exc_ok (T.fact 80 (f := .exc "NoBlock") rfl)
theorem e_NoArea (T : TX K mg) : PySem.W.excIn K (He.ga K "NoArea") He.veBase "ValueError.__new__" = true ∧ PySem.W.keepIn K (.ref (He.ga K "NoArea")) = true ∧ PySem.W.subIn K (.ref (He.ga K "NoArea")) (.type "BaseException") = some true ∧ PySem.W.typeIn K (.ref (He.ga K "NoArea")) = some (.type "type") := He.exc_ok (T.fact 81 (f := .exc "NoArea") rfl)
theorem e_NoNumber (T : TX K mg) : PySem.W.excIn K (He.ga K "NoNumber") He.veBase "ValueError.__new__" = true ∧ PySem.W.keepIn K (.ref (He.ga K "NoNumber")) = true ∧ PySem.W.subIn K (.ref (He.ga K "NoNumber")) (.type "BaseException") = some true ∧ PySem.W.typeIn K (.ref (He.ga K "NoNumber")) = some (.type "type") := He.exc_ok (T.fact 82 (f := .exc "NoNumber") rfl)
theorem e_NoChange (T : TX K mg) : PySem.W.excIn K (He.ga K "NoChange") He.veBase "ValueError.__new__" = true ∧ PySem.W.keepIn K (.ref (He.ga K "NoChange")) = true ∧ PySem.W.subIn K (.ref (He.ga K "NoChange")) (.type "BaseException") = some true ∧ PySem.W.typeIn K (.ref (He.ga K "NoChange")) = some (.type "type") := He.exc_ok (T.fact 83 (f := .exc "NoChange") rfl)
theorem e_NoValue (T : TX K mg) : PySem.W.excIn K (He.ga K "NoValue") He.veBase "ValueError.__new__" = true ∧ PySem.W.keepIn K (.ref (He.ga K "NoValue")) = true ∧ PySem.W.subIn K (.ref (He.ga K "NoValue")) (.type "BaseException") = some true ∧ PySem.W.typeIn K (.ref (He.ga K "NoValue")) = some (.type "type") := He.exc_ok (T.fact 84 (f := .exc "NoValue") rfl)
theorem e_NoSheet (T : TX K mg) : PySem.W.excIn K (He.ga K "NoSheet") He.veBase "ValueError.__new__" = true ∧ PySem.W.keepIn K (.ref (He.ga K "NoSheet")) = true ∧ PySem.W.subIn K (.ref (He.ga K "NoSheet")) (.type "BaseException") = some true ∧ PySem.W.typeIn K (.ref (He.ga K "NoSheet")) = some (.type "type") := He.exc_ok (T.fact 85 (f := .exc "NoSheet") rfl)
theorem k_Block (T : TX K mg) : Cls K (He.ga K "Block") := He.cls_ok (T.fact 86 (f := .cls "Block") rfl)
theorem mk_Block (T : TX K mg) : Mk K (He.ga K "Block") (He.ma K (He.ga K "Block") "__init__") := He.mkr_ok (T.fact 87 (f := .mkr "Block") rfl)
theorem m_Block___init__ (T : TX K mg) : Meth K (He.ga K "Block") "__init__" (He.ma K (He.ga K "Block") "__init__") := He.meth_ok (T.fact 88 (f := .meth "Block" "__init__") rfl)
theorem m_Block___eq__ (T : TX K mg) : Meth K (He.ga K "Block") "__eq__" (He.ma K (He.ga K "Block") "__eq__") := He.meth_ok (T.fact 89 (f := .meth "Block" "__eq__") rfl)
theorem m_Block___str__ (T : TX K mg) : Meth K (He.ga K "Block") "__str__" (He.ma K (He.ga K "Block") "__str__") := He.meth_ok (T.fact 90 (f := .meth "Block" "__str__") rfl)
theorem m_Block___repr__ (T : TX K mg) : Meth K (He.ga K "Block") "__repr__" (He.ma K (He.ga K "Block") "__repr__") := He.meth_ok (T.fact 91 (f := .meth "Block" "__repr__") rfl)
theorem m_Block_has (T : TX K mg) : Meth K (He.ga K "Block") "has" (He.ma K (He.ga K "Block") "has") := He.meth_ok (T.fact 92 (f := .meth "Block" "has") rfl)
theorem m_Block_size (T : TX K mg) : Meth K (He.ga K "Block") "size" (He.ma K (He.ga K "Block") "size") := He.meth_ok (T.fact 93 (f := .meth "Block" "size") rfl)
theorem n_Block_top (T : TX K mg) : NoAttr K (He.ga K "Block") "top" := He.noat_ok (T.fact 94 (f := .noat "Block" "top") rfl)
theorem n_Block_left (T : TX K mg) : NoAttr K (He.ga K "Block") "left" := He.noat_ok (T.fact 95 (f := .noat "Block" "left") rfl)
theorem n_Block_bottom (T : TX K mg) : NoAttr K (He.ga K "Block") "bottom" := He.noat_ok (T.fact 96 (f := .noat "Block" "bottom") rfl)
theorem n_Block_right (T : TX K mg) : NoAttr K (He.ga K "Block") "right" := He.noat_ok (T.fact 97 (f := .noat "Block" "right") rfl)
theorem k_Area (T : TX K mg) : Cls K (He.ga K "Area") := He.cls_ok (T.fact 98 (f := .cls "Area") rfl)
theorem mk_Area (T : TX K mg) : Mk K (He.ga K "Area") (He.ma K (He.ga K "Area") "__init__") := He.mkr_ok (T.fact 99 (f := .mkr "Area") rfl)
theorem m_Area___init__ (T : TX K mg) : Meth K (He.ga K "Area") "__init__" (He.ma K (He.ga K "Area") "__init__") := He.meth_ok (T.fact 100 (f := .meth "Area" "__init__") rfl)
theorem m_Area___eq__ (T : TX K mg) : Meth K (He.ga K "Area") "__eq__" (He.ma K (He.ga K "Area") "__eq__") := He.meth_ok (T.fact 101 (f := .meth "Area" "__eq__") rfl)
theorem m_Area___len__ (T : TX K mg) : Meth K (He.ga K "Area") "__len__" (He.ma K (He.ga K "Area") "__len__") := He.meth_ok (T.fact 102 (f := .meth "Area" "__len__") rfl)
theorem m_Area___str__ (T : TX K mg) : Meth K (He.ga K "Area") "__str__" (He.ma K (He.ga K "Area") "__str__") := He.meth_ok (T.fact 103 (f := .meth "Area" "__str__") rfl)
theorem m_Area___repr__ (T : TX K mg) : Meth K (He.ga K "Area") "__repr__" (He.ma K (He.ga K "Area") "__repr__") := He.meth_ok (T.fact 104 (f := .meth "Area" "__repr__") rfl)
theorem m_Area_blocks (T : TX K mg) : Meth K (He.ga K "Area") "blocks" (He.ma K (He.ga K "Area") "blocks") := He.meth_ok (T.fact 105 (f := .meth "Area" "blocks") rfl)
theorem m_Area_firsts (T : TX K mg) : Meth K (He.ga K "Area") "firsts" (He.ma K (He.ga K "Area") "firsts") := He.meth_ok (T.fact 106 (f := .meth "Area" "firsts") rfl)
theorem m_Area_has (T : TX K mg) : Meth K (He.ga K "Area") "has" (He.ma K (He.ga K "Area") "has") := He.meth_ok (T.fact 107 (f := .meth "Area" "has") rfl)
theorem m_Area_size (T : TX K mg) : Meth K (He.ga K "Area") "size" (He.ma K (He.ga K "Area") "size") := He.meth_ok (T.fact 108 (f := .meth "Area" "size") rfl)
theorem m_Area_by (T : TX K mg) : Meth K (He.ga K "Area") "by" (He.ma K (He.ga K "Area") "by") := He.meth_ok (T.fact 109 (f := .meth "Area" "by") rfl)
theorem m_Area_met (T : TX K mg) : Meth K (He.ga K "Area") "met" (He.ma K (He.ga K "Area") "met") := He.meth_ok (T.fact 110 (f := .meth "Area" "met") rfl)
theorem m_Area_joined (T : TX K mg) : Meth K (He.ga K "Area") "joined" (He.ma K (He.ga K "Area") "joined") := He.meth_ok (T.fact 111 (f := .meth "Area" "joined") rfl)
theorem m_Area_without (T : TX K mg) : Meth K (He.ga K "Area") "without" (He.ma K (He.ga K "Area") "without") := He.meth_ok (T.fact 112 (f := .meth "Area" "without") rfl)
theorem m_Area_others (T : TX K mg) : Meth K (He.ga K "Area") "others" (He.ma K (He.ga K "Area") "others") := He.meth_ok (T.fact 113 (f := .meth "Area" "others") rfl)
theorem m_Area_is_within (T : TX K mg) : Meth K (He.ga K "Area") "is_within" (He.ma K (He.ga K "Area") "is_within") := He.meth_ok (T.fact 114 (f := .meth "Area" "is_within") rfl)
theorem m_Area_meets (T : TX K mg) : Meth K (He.ga K "Area") "meets" (He.ma K (He.ga K "Area") "meets") := He.meth_ok (T.fact 115 (f := .meth "Area" "meets") rfl)
theorem m_Area_turned (T : TX K mg) : Meth K (He.ga K "Area") "turned" (He.ma K (He.ga K "Area") "turned") := He.meth_ok (T.fact 116 (f := .meth "Area" "turned") rfl)
theorem m_Area_shifted (T : TX K mg) : Meth K (He.ga K "Area") "shifted" (He.ma K (He.ga K "Area") "shifted") := He.meth_ok (T.fact 117 (f := .meth "Area" "shifted") rfl)
theorem n_Area_form (T : TX K mg) : NoAttr K (He.ga K "Area") "form" := He.noat_ok (T.fact 118 (f := .noat "Area" "form") rfl)
theorem k_Change (T : TX K mg) : Cls K (He.ga K "Change") := He.cls_ok (T.fact 119 (f := .cls "Change") rfl)
theorem m_Change_checked (T : TX K mg) : Meth K (He.ga K "Change") "checked" (He.ma K (He.ga K "Change") "checked") := He.meth_ok (T.fact 120 (f := .meth "Change" "checked") rfl)
theorem k_Sheet (T : TX K mg) : Cls K (He.ga K "Sheet") := He.cls_ok (T.fact 121 (f := .cls "Sheet") rfl)
theorem mk_Sheet (T : TX K mg) : Mk K (He.ga K "Sheet") (He.ma K (He.ga K "Sheet") "__init__") := He.mkr_ok (T.fact 122 (f := .mkr "Sheet") rfl)
theorem m_Sheet___init__ (T : TX K mg) : Meth K (He.ga K "Sheet") "__init__" (He.ma K (He.ga K "Sheet") "__init__") := He.meth_ok (T.fact 123 (f := .meth "Sheet" "__init__") rfl)
theorem m_Sheet___eq__ (T : TX K mg) : Meth K (He.ga K "Sheet") "__eq__" (He.ma K (He.ga K "Sheet") "__eq__") := He.meth_ok (T.fact 124 (f := .meth "Sheet" "__eq__") rfl)
theorem m_Sheet___len__ (T : TX K mg) : Meth K (He.ga K "Sheet") "__len__" (He.ma K (He.ga K "Sheet") "__len__") := He.meth_ok (T.fact 125 (f := .meth "Sheet" "__len__") rfl)
theorem m_Sheet_fill (T : TX K mg) : Meth K (He.ga K "Sheet") "fill" (He.ma K (He.ga K "Sheet") "fill") := He.meth_ok (T.fact 126 (f := .meth "Sheet" "fill") rfl)
theorem m_Sheet_hold (T : TX K mg) : Meth K (He.ga K "Sheet") "hold" (He.ma K (He.ga K "Sheet") "hold") := He.meth_ok (T.fact 127 (f := .meth "Sheet" "hold") rfl)
theorem m_Sheet_value (T : TX K mg) : Meth K (He.ga K "Sheet") "value" (He.ma K (He.ga K "Sheet") "value") := He.meth_ok (T.fact 128 (f := .meth "Sheet" "value") rfl)
theorem m_Sheet_where (T : TX K mg) : Meth K (He.ga K "Sheet") "where" (He.ma K (He.ga K "Sheet") "where") := He.meth_ok (T.fact 129 (f := .meth "Sheet" "where") rfl)
theorem m_Sheet_told (T : TX K mg) : Meth K (He.ga K "Sheet") "told" (He.ma K (He.ga K "Sheet") "told") := He.meth_ok (T.fact 130 (f := .meth "Sheet" "told") rfl)
theorem m_Sheet_pairs (T : TX K mg) : Meth K (He.ga K "Sheet") "pairs" (He.ma K (He.ga K "Sheet") "pairs") := He.meth_ok (T.fact 131 (f := .meth "Sheet" "pairs") rfl)
theorem m_Sheet_change (T : TX K mg) : Meth K (He.ga K "Sheet") "change" (He.ma K (He.ga K "Sheet") "change") := He.meth_ok (T.fact 132 (f := .meth "Sheet" "change") rfl)
theorem m_Sheet_laid (T : TX K mg) : Meth K (He.ga K "Sheet") "laid" (He.ma K (He.ga K "Sheet") "laid") := He.meth_ok (T.fact 133 (f := .meth "Sheet" "laid") rfl)
theorem m_Sheet_twin (T : TX K mg) : Meth K (He.ga K "Sheet") "twin" (He.ma K (He.ga K "Sheet") "twin") := He.meth_ok (T.fact 134 (f := .meth "Sheet" "twin") rfl)
theorem n_Sheet_held (T : TX K mg) : NoAttr K (He.ga K "Sheet") "held" := He.noat_ok (T.fact 135 (f := .noat "Sheet" "held") rfl)
theorem x_CellError_CellError (T : TX K mg) : PySem.W.exmOne K (.ref (He.ga K "CellError")) (.ref (He.ga K "CellError")) = some true := He.exm_ok (T.fact 136 (f := .exm "CellError" "CellError" true) rfl)
theorem x_NoCell_CellError (T : TX K mg) : PySem.W.exmOne K (.ref (He.ga K "NoCell")) (.ref (He.ga K "CellError")) = some true := He.exm_ok (T.fact 137 (f := .exm "NoCell" "CellError" true) rfl)
theorem x_NoColumn_CellError (T : TX K mg) : PySem.W.exmOne K (.ref (He.ga K "NoColumn")) (.ref (He.ga K "CellError")) = some true := He.exm_ok (T.fact 138 (f := .exm "NoColumn" "CellError" true) rfl)
theorem x_NoBlock_CellError (T : TX K mg) : PySem.W.exmOne K (.ref (He.ga K "NoBlock")) (.ref (He.ga K "CellError")) = some true := He.exm_ok (T.fact 139 (f := .exm "NoBlock" "CellError" true) rfl)
theorem x_NoArea_CellError (T : TX K mg) : PySem.W.exmOne K (.ref (He.ga K "NoArea")) (.ref (He.ga K "CellError")) = some true := He.exm_ok (T.fact 140 (f := .exm "NoArea" "CellError" true) rfl)
theorem x_NoNumber_CellError (T : TX K mg) : PySem.W.exmOne K (.ref (He.ga K "NoNumber")) (.ref (He.ga K "CellError")) = some true := He.exm_ok (T.fact 141 (f := .exm "NoNumber" "CellError" true) rfl)
theorem x_NoChange_CellError (T : TX K mg) : PySem.W.exmOne K (.ref (He.ga K "NoChange")) (.ref (He.ga K "CellError")) = some true := He.exm_ok (T.fact 142 (f := .exm "NoChange" "CellError" true) rfl)
theorem x_NoValue_CellError (T : TX K mg) : PySem.W.exmOne K (.ref (He.ga K "NoValue")) (.ref (He.ga K "CellError")) = some true := He.exm_ok (T.fact 143 (f := .exm "NoValue" "CellError" true) rfl)
theorem x_NoSheet_CellError (T : TX K mg) : PySem.W.exmOne K (.ref (He.ga K "NoSheet")) (.ref (He.ga K "CellError")) = some true := He.exm_ok (T.fact 144 (f := .exm "NoSheet" "CellError" true) rfl)
theorem ie_CellError_CellError (T : TX K mg) : PySem.W.kitOne K (.ref (He.ga K "CellError")) (.ref (He.ga K "CellError")) = some true := T.keeT 0 (z := ("CellError", "CellError", true)) rfl
theorem ie_CellError_NoCell (T : TX K mg) : PySem.W.kitOne K (.ref (He.ga K "CellError")) (.ref (He.ga K "NoCell")) = some false := T.keeT 1 (z := ("CellError", "NoCell", false)) rfl
theorem ie_CellError_NoColumn (T : TX K mg) : PySem.W.kitOne K (.ref (He.ga K "CellError")) (.ref (He.ga K "NoColumn")) = some false := T.keeT 2 (z := ("CellError", "NoColumn", false)) rfl
theorem ie_CellError_NoBlock (T : TX K mg) : PySem.W.kitOne K (.ref (He.ga K "CellError")) (.ref (He.ga K "NoBlock")) = some false := T.keeT 3 (z := ("CellError", "NoBlock", false)) rfl
theorem ie_CellError_NoArea (T : TX K mg) : PySem.W.kitOne K (.ref (He.ga K "CellError")) (.ref (He.ga K "NoArea")) = some false := T.keeT 4 (z := ("CellError", "NoArea", false)) rfl
theorem ie_CellError_NoNumber (T : TX K mg) : PySem.W.kitOne K (.ref (He.ga K "CellError")) (.ref (He.ga K "NoNumber")) = some false := T.keeT 5 (z := ("CellError", "NoNumber", false)) rfl
theorem ie_CellError_NoChange (T : TX K mg) : PySem.W.kitOne K (.ref (He.ga K "CellError")) (.ref (He.ga K "NoChange")) = some false := T.keeT 6 (z := ("CellError", "NoChange", false)) rfl
theorem ie_CellError_NoValue (T : TX K mg) : PySem.W.kitOne K (.ref (He.ga K "CellError")) (.ref (He.ga K "NoValue")) = some false := T.keeT 7 (z := ("CellError", "NoValue", false)) rfl
theorem ie_CellError_NoSheet (T : TX K mg) : PySem.W.kitOne K (.ref (He.ga K "CellError")) (.ref (He.ga K "NoSheet")) = some false := T.keeT 8 (z := ("CellError", "NoSheet", false)) rfl
theorem ie_NoCell_CellError (T : TX K mg) : PySem.W.kitOne K (.ref (He.ga K "NoCell")) (.ref (He.ga K "CellError")) = some true := T.keeT 9 (z := ("NoCell", "CellError", true)) rfl
theorem ie_NoCell_NoCell (T : TX K mg) : PySem.W.kitOne K (.ref (He.ga K "NoCell")) (.ref (He.ga K "NoCell")) = some true := T.keeT 10 (z := ("NoCell", "NoCell", true)) rfl
theorem ie_NoCell_NoColumn (T : TX K mg) : PySem.W.kitOne K (.ref (He.ga K "NoCell")) (.ref (He.ga K "NoColumn")) = some false := T.keeT 11 (z := ("NoCell", "NoColumn", false)) rfl
theorem ie_NoCell_NoBlock (T : TX K mg) : PySem.W.kitOne K (.ref (He.ga K "NoCell")) (.ref (He.ga K "NoBlock")) = some false := T.keeT 12 (z := ("NoCell", "NoBlock", false)) rfl
theorem ie_NoCell_NoArea (T : TX K mg) : PySem.W.kitOne K (.ref (He.ga K "NoCell")) (.ref (He.ga K "NoArea")) = some false := T.keeT 13 (z := ("NoCell", "NoArea", false)) rfl
theorem ie_NoCell_NoNumber (T : TX K mg) : PySem.W.kitOne K (.ref (He.ga K "NoCell")) (.ref (He.ga K "NoNumber")) = some false := T.keeT 14 (z := ("NoCell", "NoNumber", false)) rfl
theorem ie_NoCell_NoChange (T : TX K mg) : PySem.W.kitOne K (.ref (He.ga K "NoCell")) (.ref (He.ga K "NoChange")) = some false := T.keeT 15 (z := ("NoCell", "NoChange", false)) rfl
theorem ie_NoCell_NoValue (T : TX K mg) : PySem.W.kitOne K (.ref (He.ga K "NoCell")) (.ref (He.ga K "NoValue")) = some false := T.keeT 16 (z := ("NoCell", "NoValue", false)) rfl
theorem ie_NoCell_NoSheet (T : TX K mg) : PySem.W.kitOne K (.ref (He.ga K "NoCell")) (.ref (He.ga K "NoSheet")) = some false := T.keeT 17 (z := ("NoCell", "NoSheet", false)) rfl
theorem ie_NoColumn_CellError (T : TX K mg) : PySem.W.kitOne K (.ref (He.ga K "NoColumn")) (.ref (He.ga K "CellError")) = some true := T.keeT 18 (z := ("NoColumn", "CellError", true)) rfl
theorem ie_NoColumn_NoCell (T : TX K mg) : PySem.W.kitOne K (.ref (He.ga K "NoColumn")) (.ref (He.ga K "NoCell")) = some false := T.keeT 19 (z := ("NoColumn", "NoCell", false)) rfl
theorem ie_NoColumn_NoColumn (T : TX K mg) : PySem.W.kitOne K (.ref (He.ga K "NoColumn")) (.ref (He.ga K "NoColumn")) = some true := T.keeT 20 (z := ("NoColumn", "NoColumn", true)) rfl
theorem ie_NoColumn_NoBlock (T : TX K mg) : PySem.W.kitOne K (.ref (He.ga K "NoColumn")) (.ref (He.ga K "NoBlock")) = some false := T.keeT 21 (z := ("NoColumn", "NoBlock", false)) rfl
theorem ie_NoColumn_NoArea (T : TX K mg) : PySem.W.kitOne K (.ref (He.ga K "NoColumn")) (.ref (He.ga K "NoArea")) = some false := T.keeT 22 (z := ("NoColumn", "NoArea", false)) rfl
theorem ie_NoColumn_NoNumber (T : TX K mg) : PySem.W.kitOne K (.ref (He.ga K "NoColumn")) (.ref (He.ga K "NoNumber")) = some false := T.keeT 23 (z := ("NoColumn", "NoNumber", false)) rfl
theorem ie_NoColumn_NoChange (T : TX K mg) : PySem.W.kitOne K (.ref (He.ga K "NoColumn")) (.ref (He.ga K "NoChange")) = some false := T.keeT 24 (z := ("NoColumn", "NoChange", false)) rfl
theorem ie_NoColumn_NoValue (T : TX K mg) : PySem.W.kitOne K (.ref (He.ga K "NoColumn")) (.ref (He.ga K "NoValue")) = some false := T.keeT 25 (z := ("NoColumn", "NoValue", false)) rfl
theorem ie_NoColumn_NoSheet (T : TX K mg) : PySem.W.kitOne K (.ref (He.ga K "NoColumn")) (.ref (He.ga K "NoSheet")) = some false := T.keeT 26 (z := ("NoColumn", "NoSheet", false)) rfl
theorem ie_NoBlock_CellError (T : TX K mg) : PySem.W.kitOne K (.ref (He.ga K "NoBlock")) (.ref (He.ga K "CellError")) = some true := T.keeT 27 (z := ("NoBlock", "CellError", true)) rfl
theorem ie_NoBlock_NoCell (T : TX K mg) : PySem.W.kitOne K (.ref (He.ga K "NoBlock")) (.ref (He.ga K "NoCell")) = some false := T.keeT 28 (z := ("NoBlock", "NoCell", false)) rfl
theorem ie_NoBlock_NoColumn (T : TX K mg) : PySem.W.kitOne K (.ref (He.ga K "NoBlock")) (.ref (He.ga K "NoColumn")) = some false := T.keeT 29 (z := ("NoBlock", "NoColumn", false)) rfl
theorem ie_NoBlock_NoBlock (T : TX K mg) : PySem.W.kitOne K (.ref (He.ga K "NoBlock")) (.ref (He.ga K "NoBlock")) = some true := T.keeT 30 (z := ("NoBlock", "NoBlock", true)) rfl
theorem ie_NoBlock_NoArea (T : TX K mg) : PySem.W.kitOne K (.ref (He.ga K "NoBlock")) (.ref (He.ga K "NoArea")) = some false := T.keeT 31 (z := ("NoBlock", "NoArea", false)) rfl
theorem ie_NoBlock_NoNumber (T : TX K mg) : PySem.W.kitOne K (.ref (He.ga K "NoBlock")) (.ref (He.ga K "NoNumber")) = some false := T.keeT 32 (z := ("NoBlock", "NoNumber", false)) rfl
theorem ie_NoBlock_NoChange (T : TX K mg) : PySem.W.kitOne K (.ref (He.ga K "NoBlock")) (.ref (He.ga K "NoChange")) = some false := T.keeT 33 (z := ("NoBlock", "NoChange", false)) rfl
theorem ie_NoBlock_NoValue (T : TX K mg) : PySem.W.kitOne K (.ref (He.ga K "NoBlock")) (.ref (He.ga K "NoValue")) = some false := T.keeT 34 (z := ("NoBlock", "NoValue", false)) rfl
theorem ie_NoBlock_NoSheet (T : TX K mg) : PySem.W.kitOne K (.ref (He.ga K "NoBlock")) (.ref (He.ga K "NoSheet")) = some false := T.keeT 35 (z := ("NoBlock", "NoSheet", false)) rfl
theorem ie_NoArea_CellError (T : TX K mg) : PySem.W.kitOne K (.ref (He.ga K "NoArea")) (.ref (He.ga K "CellError")) = some true := T.keeT 36 (z := ("NoArea", "CellError", true)) rfl
theorem ie_NoArea_NoCell (T : TX K mg) : PySem.W.kitOne K (.ref (He.ga K "NoArea")) (.ref (He.ga K "NoCell")) = some false := T.keeT 37 (z := ("NoArea", "NoCell", false)) rfl
theorem ie_NoArea_NoColumn (T : TX K mg) : PySem.W.kitOne K (.ref (He.ga K "NoArea")) (.ref (He.ga K "NoColumn")) = some false := T.keeT 38 (z := ("NoArea", "NoColumn", false)) rfl
theorem ie_NoArea_NoBlock (T : TX K mg) : PySem.W.kitOne K (.ref (He.ga K "NoArea")) (.ref (He.ga K "NoBlock")) = some false := T.keeT 39 (z := ("NoArea", "NoBlock", false)) rfl
theorem ie_NoArea_NoArea (T : TX K mg) : PySem.W.kitOne K (.ref (He.ga K "NoArea")) (.ref (He.ga K "NoArea")) = some true := T.keeT 40 (z := ("NoArea", "NoArea", true)) rfl
theorem ie_NoArea_NoNumber (T : TX K mg) : PySem.W.kitOne K (.ref (He.ga K "NoArea")) (.ref (He.ga K "NoNumber")) = some false := T.keeT 41 (z := ("NoArea", "NoNumber", false)) rfl
theorem ie_NoArea_NoChange (T : TX K mg) : PySem.W.kitOne K (.ref (He.ga K "NoArea")) (.ref (He.ga K "NoChange")) = some false := T.keeT 42 (z := ("NoArea", "NoChange", false)) rfl
theorem ie_NoArea_NoValue (T : TX K mg) : PySem.W.kitOne K (.ref (He.ga K "NoArea")) (.ref (He.ga K "NoValue")) = some false := T.keeT 43 (z := ("NoArea", "NoValue", false)) rfl
theorem ie_NoArea_NoSheet (T : TX K mg) : PySem.W.kitOne K (.ref (He.ga K "NoArea")) (.ref (He.ga K "NoSheet")) = some false := T.keeT 44 (z := ("NoArea", "NoSheet", false)) rfl
theorem ie_NoNumber_CellError (T : TX K mg) : PySem.W.kitOne K (.ref (He.ga K "NoNumber")) (.ref (He.ga K "CellError")) = some true := T.keeT 45 (z := ("NoNumber", "CellError", true)) rfl
theorem ie_NoNumber_NoCell (T : TX K mg) : PySem.W.kitOne K (.ref (He.ga K "NoNumber")) (.ref (He.ga K "NoCell")) = some false := T.keeT 46 (z := ("NoNumber", "NoCell", false)) rfl
theorem ie_NoNumber_NoColumn (T : TX K mg) : PySem.W.kitOne K (.ref (He.ga K "NoNumber")) (.ref (He.ga K "NoColumn")) = some false := T.keeT 47 (z := ("NoNumber", "NoColumn", false)) rfl
theorem ie_NoNumber_NoBlock (T : TX K mg) : PySem.W.kitOne K (.ref (He.ga K "NoNumber")) (.ref (He.ga K "NoBlock")) = some false := T.keeT 48 (z := ("NoNumber", "NoBlock", false)) rfl
theorem ie_NoNumber_NoArea (T : TX K mg) : PySem.W.kitOne K (.ref (He.ga K "NoNumber")) (.ref (He.ga K "NoArea")) = some false := T.keeT 49 (z := ("NoNumber", "NoArea", false)) rfl
theorem ie_NoNumber_NoNumber (T : TX K mg) : PySem.W.kitOne K (.ref (He.ga K "NoNumber")) (.ref (He.ga K "NoNumber")) = some true := T.keeT 50 (z := ("NoNumber", "NoNumber", true)) rfl
theorem ie_NoNumber_NoChange (T : TX K mg) : PySem.W.kitOne K (.ref (He.ga K "NoNumber")) (.ref (He.ga K "NoChange")) = some false := T.keeT 51 (z := ("NoNumber", "NoChange", false)) rfl
theorem ie_NoNumber_NoValue (T : TX K mg) : PySem.W.kitOne K (.ref (He.ga K "NoNumber")) (.ref (He.ga K "NoValue")) = some false := T.keeT 52 (z := ("NoNumber", "NoValue", false)) rfl
theorem ie_NoNumber_NoSheet (T : TX K mg) : PySem.W.kitOne K (.ref (He.ga K "NoNumber")) (.ref (He.ga K "NoSheet")) = some false := T.keeT 53 (z := ("NoNumber", "NoSheet", false)) rfl
theorem ie_NoChange_CellError (T : TX K mg) : PySem.W.kitOne K (.ref (He.ga K "NoChange")) (.ref (He.ga K "CellError")) = some true := T.keeT 54 (z := ("NoChange", "CellError", true)) rfl
theorem ie_NoChange_NoCell (T : TX K mg) : PySem.W.kitOne K (.ref (He.ga K "NoChange")) (.ref (He.ga K "NoCell")) = some false := T.keeT 55 (z := ("NoChange", "NoCell", false)) rfl
theorem ie_NoChange_NoColumn (T : TX K mg) : PySem.W.kitOne K (.ref (He.ga K "NoChange")) (.ref (He.ga K "NoColumn")) = some false := T.keeT 56 (z := ("NoChange", "NoColumn", false)) rfl
theorem ie_NoChange_NoBlock (T : TX K mg) : PySem.W.kitOne K (.ref (He.ga K "NoChange")) (.ref (He.ga K "NoBlock")) = some false := T.keeT 57 (z := ("NoChange", "NoBlock", false)) rfl
theorem ie_NoChange_NoArea (T : TX K mg) : PySem.W.kitOne K (.ref (He.ga K "NoChange")) (.ref (He.ga K "NoArea")) = some false := T.keeT 58 (z := ("NoChange", "NoArea", false)) rfl
theorem ie_NoChange_NoNumber (T : TX K mg) : PySem.W.kitOne K (.ref (He.ga K "NoChange")) (.ref (He.ga K "NoNumber")) = some false := T.keeT 59 (z := ("NoChange", "NoNumber", false)) rfl
theorem ie_NoChange_NoChange (T : TX K mg) : PySem.W.kitOne K (.ref (He.ga K "NoChange")) (.ref (He.ga K "NoChange")) = some true := T.keeT 60 (z := ("NoChange", "NoChange", true)) rfl
theorem ie_NoChange_NoValue (T : TX K mg) : PySem.W.kitOne K (.ref (He.ga K "NoChange")) (.ref (He.ga K "NoValue")) = some false := T.keeT 61 (z := ("NoChange", "NoValue", false)) rfl
theorem ie_NoChange_NoSheet (T : TX K mg) : PySem.W.kitOne K (.ref (He.ga K "NoChange")) (.ref (He.ga K "NoSheet")) = some false := T.keeT 62 (z := ("NoChange", "NoSheet", false)) rfl
theorem ie_NoValue_CellError (T : TX K mg) : PySem.W.kitOne K (.ref (He.ga K "NoValue")) (.ref (He.ga K "CellError")) = some true := T.keeT 63 (z := ("NoValue", "CellError", true)) rfl
theorem ie_NoValue_NoCell (T : TX K mg) : PySem.W.kitOne K (.ref (He.ga K "NoValue")) (.ref (He.ga K "NoCell")) = some false := T.keeT 64 (z := ("NoValue", "NoCell", false)) rfl
theorem ie_NoValue_NoColumn (T : TX K mg) : PySem.W.kitOne K (.ref (He.ga K "NoValue")) (.ref (He.ga K "NoColumn")) = some false := T.keeT 65 (z := ("NoValue", "NoColumn", false)) rfl
theorem ie_NoValue_NoBlock (T : TX K mg) : PySem.W.kitOne K (.ref (He.ga K "NoValue")) (.ref (He.ga K "NoBlock")) = some false := T.keeT 66 (z := ("NoValue", "NoBlock", false)) rfl
theorem ie_NoValue_NoArea (T : TX K mg) : PySem.W.kitOne K (.ref (He.ga K "NoValue")) (.ref (He.ga K "NoArea")) = some false := T.keeT 67 (z := ("NoValue", "NoArea", false)) rfl
theorem ie_NoValue_NoNumber (T : TX K mg) : PySem.W.kitOne K (.ref (He.ga K "NoValue")) (.ref (He.ga K "NoNumber")) = some false := T.keeT 68 (z := ("NoValue", "NoNumber", false)) rfl
theorem ie_NoValue_NoChange (T : TX K mg) : PySem.W.kitOne K (.ref (He.ga K "NoValue")) (.ref (He.ga K "NoChange")) = some false := T.keeT 69 (z := ("NoValue", "NoChange", false)) rfl
theorem ie_NoValue_NoValue (T : TX K mg) : PySem.W.kitOne K (.ref (He.ga K "NoValue")) (.ref (He.ga K "NoValue")) = some true := T.keeT 70 (z := ("NoValue", "NoValue", true)) rfl
theorem ie_NoValue_NoSheet (T : TX K mg) : PySem.W.kitOne K (.ref (He.ga K "NoValue")) (.ref (He.ga K "NoSheet")) = some false := T.keeT 71 (z := ("NoValue", "NoSheet", false)) rfl
theorem ie_NoSheet_CellError (T : TX K mg) : PySem.W.kitOne K (.ref (He.ga K "NoSheet")) (.ref (He.ga K "CellError")) = some true := T.keeT 72 (z := ("NoSheet", "CellError", true)) rfl
theorem ie_NoSheet_NoCell (T : TX K mg) : PySem.W.kitOne K (.ref (He.ga K "NoSheet")) (.ref (He.ga K "NoCell")) = some false := T.keeT 73 (z := ("NoSheet", "NoCell", false)) rfl
theorem ie_NoSheet_NoColumn (T : TX K mg) : PySem.W.kitOne K (.ref (He.ga K "NoSheet")) (.ref (He.ga K "NoColumn")) = some false := T.keeT 74 (z := ("NoSheet", "NoColumn", false)) rfl
theorem ie_NoSheet_NoBlock (T : TX K mg) : PySem.W.kitOne K (.ref (He.ga K "NoSheet")) (.ref (He.ga K "NoBlock")) = some false := T.keeT 75 (z := ("NoSheet", "NoBlock", false)) rfl
theorem ie_NoSheet_NoArea (T : TX K mg) : PySem.W.kitOne K (.ref (He.ga K "NoSheet")) (.ref (He.ga K "NoArea")) = some false := T.keeT 76 (z := ("NoSheet", "NoArea", false)) rfl
theorem ie_NoSheet_NoNumber (T : TX K mg) : PySem.W.kitOne K (.ref (He.ga K "NoSheet")) (.ref (He.ga K "NoNumber")) = some false := T.keeT 77 (z := ("NoSheet", "NoNumber", false)) rfl
theorem ie_NoSheet_NoChange (T : TX K mg) : PySem.W.kitOne K (.ref (He.ga K "NoSheet")) (.ref (He.ga K "NoChange")) = some false := T.keeT 78 (z := ("NoSheet", "NoChange", false)) rfl
theorem ie_NoSheet_NoValue (T : TX K mg) : PySem.W.kitOne K (.ref (He.ga K "NoSheet")) (.ref (He.ga K "NoValue")) = some false := T.keeT 79 (z := ("NoSheet", "NoValue", false)) rfl
theorem ie_NoSheet_NoSheet (T : TX K mg) : PySem.W.kitOne K (.ref (He.ga K "NoSheet")) (.ref (He.ga K "NoSheet")) = some true := T.keeT 80 (z := ("NoSheet", "NoSheet", true)) rfl
theorem ec_CellError (T : TX K mg) : ExcC K (He.ga K "CellError") := T.kexT 0 (z := "CellError") rfl
theorem iv_CellError (T : TX K mg) : PySem.W.kitOne K (.ref (He.ga K "CellError")) (.type "ValueError") = some true := T.kev 0 (z := "CellError") rfl
theorem ec_NoCell (T : TX K mg) : ExcC K (He.ga K "NoCell") := T.kexT 1 (z := "NoCell") rfl
theorem iv_NoCell (T : TX K mg) : PySem.W.kitOne K (.ref (He.ga K "NoCell")) (.type "ValueError") = some true := T.kev 1 (z := "NoCell") rfl
theorem ec_NoColumn (T : TX K mg) : ExcC K (He.ga K "NoColumn") := T.kexT 2 (z := "NoColumn") rfl
theorem iv_NoColumn (T : TX K mg) : PySem.W.kitOne K (.ref (He.ga K "NoColumn")) (.type "ValueError") = some true := T.kev 2 (z := "NoColumn") rfl
theorem ec_NoBlock (T : TX K mg) : ExcC K (He.ga K "NoBlock") := T.kexT 3 (z := "NoBlock") rfl
theorem iv_NoBlock (T : TX K mg) : PySem.W.kitOne K (.ref (He.ga K "NoBlock")) (.type "ValueError") = some true := T.kev 3 (z := "NoBlock") rfl
theorem ec_NoArea (T : TX K mg) : ExcC K (He.ga K "NoArea") := T.kexT 4 (z := "NoArea") rfl
theorem iv_NoArea (T : TX K mg) : PySem.W.kitOne K (.ref (He.ga K "NoArea")) (.type "ValueError") = some true := T.kev 4 (z := "NoArea") rfl
theorem ec_NoNumber (T : TX K mg) : ExcC K (He.ga K "NoNumber") := T.kexT 5 (z := "NoNumber") rfl
theorem iv_NoNumber (T : TX K mg) : PySem.W.kitOne K (.ref (He.ga K "NoNumber")) (.type "ValueError") = some true := T.kev 5 (z := "NoNumber") rfl
theorem ec_NoChange (T : TX K mg) : ExcC K (He.ga K "NoChange") := T.kexT 6 (z := "NoChange") rfl
theorem iv_NoChange (T : TX K mg) : PySem.W.kitOne K (.ref (He.ga K "NoChange")) (.type "ValueError") = some true := T.kev 6 (z := "NoChange") rfl
theorem ec_NoValue (T : TX K mg) : ExcC K (He.ga K "NoValue") := T.kexT 7 (z := "NoValue") rfl
theorem iv_NoValue (T : TX K mg) : PySem.W.kitOne K (.ref (He.ga K "NoValue")) (.type "ValueError") = some true := T.kev 7 (z := "NoValue") rfl
theorem ec_NoSheet (T : TX K mg) : ExcC K (He.ga K "NoSheet") := T.kexT 8 (z := "NoSheet") rfl
theorem iv_NoSheet (T : TX K mg) : PySem.W.kitOne K (.ref (He.ga K "NoSheet")) (.type "ValueError") = some true := T.kev 8 (z := "NoSheet") rfl
theorem ne_Block (T : TX K mg) : PySem.W.findIn K (.ref (He.ga K "Block")) "__ne__" = some (some (.builtin "object.__ne__")) ∧ PySem.W.subIn K (.ref (He.ga K "Block")) (.type "object") = some true := T.kneT 0 (z := "Block") rfl
theorem ne_Area (T : TX K mg) : PySem.W.findIn K (.ref (He.ga K "Area")) "__ne__" = some (some (.builtin "object.__ne__")) ∧ PySem.W.subIn K (.ref (He.ga K "Area")) (.type "object") = some true := T.kneT 1 (z := "Area") rfl
theorem ne_Sheet (T : TX K mg) : PySem.W.findIn K (.ref (He.ga K "Sheet")) "__ne__" = some (some (.builtin "object.__ne__")) ∧ PySem.W.subIn K (.ref (He.ga K "Sheet")) (.type "object") = some true := T.kneT 2 (z := "Sheet") rfl
theorem t_Block (T : TX K mg) {H : Hp} {a dx : Addr} {fs : List (Str × V)} (ha : H a = some (.ins (He.ga K "Block") dx fs)) : TyX K H (.ref a) (.ref (He.ga K "Block")) := T.kcl 0 (z := "Block") rfl (k_Block T) ha
theorem t_Area (T : TX K mg) {H : Hp} {a dx : Addr} {fs : List (Str × V)} (ha : H a = some (.ins (He.ga K "Area") dx fs)) : TyX K H (.ref a) (.ref (He.ga K "Area")) := T.kcl 1 (z := "Area") rfl (k_Area T) ha
theorem t_Change (T : TX K mg) {H : Hp} {a dx : Addr} {fs : List (Str × V)} (ha : H a = some (.ins (He.ga K "Change") dx fs)) : TyX K H (.ref a) (.ref (He.ga K "Change")) := T.kcl 2 (z := "Change") rfl (k_Change T) ha
theorem t_Sheet (T : TX K mg) {H : Hp} {a dx : Addr} {fs : List (Str × V)} (ha : H a = some (.ins (He.ga K "Sheet") dx fs)) : TyX K H (.ref a) (.ref (He.ga K "Sheet")) := T.kcl 3 (z := "Sheet") rfl (k_Sheet T) ha
theorem i_Block_Block (T : TX K mg) : PySem.W.kitOne K (.ref (He.ga K "Block")) (.ref (He.ga K "Block")) = some true := T.kio 0 (z := ("Block", "Block", true)) rfl
theorem i_Block_Area (T : TX K mg) : PySem.W.kitOne K (.ref (He.ga K "Block")) (.ref (He.ga K "Area")) = some false := T.kio 1 (z := ("Block", "Area", false)) rfl
theorem i_Block_Change (T : TX K mg) : PySem.W.kitOne K (.ref (He.ga K "Block")) (.ref (He.ga K "Change")) = some false := T.kio 2 (z := ("Block", "Change", false)) rfl
theorem i_Block_Sheet (T : TX K mg) : PySem.W.kitOne K (.ref (He.ga K "Block")) (.ref (He.ga K "Sheet")) = some false := T.kio 3 (z := ("Block", "Sheet", false)) rfl
theorem i_Area_Block (T : TX K mg) : PySem.W.kitOne K (.ref (He.ga K "Area")) (.ref (He.ga K "Block")) = some false := T.kio 4 (z := ("Area", "Block", false)) rfl
theorem i_Area_Area (T : TX K mg) : PySem.W.kitOne K (.ref (He.ga K "Area")) (.ref (He.ga K "Area")) = some true := T.kio 5 (z := ("Area", "Area", true)) rfl
theorem i_Area_Change (T : TX K mg) : PySem.W.kitOne K (.ref (He.ga K "Area")) (.ref (He.ga K "Change")) = some false := T.kio 6 (z := ("Area", "Change", false)) rfl
theorem i_Area_Sheet (T : TX K mg) : PySem.W.kitOne K (.ref (He.ga K "Area")) (.ref (He.ga K "Sheet")) = some false := T.kio 7 (z := ("Area", "Sheet", false)) rfl
theorem i_Change_Block (T : TX K mg) : PySem.W.kitOne K (.ref (He.ga K "Change")) (.ref (He.ga K "Block")) = some false := T.kio 8 (z := ("Change", "Block", false)) rfl
theorem i_Change_Area (T : TX K mg) : PySem.W.kitOne K (.ref (He.ga K "Change")) (.ref (He.ga K "Area")) = some false := T.kio 9 (z := ("Change", "Area", false)) rfl
theorem i_Change_Change (T : TX K mg) : PySem.W.kitOne K (.ref (He.ga K "Change")) (.ref (He.ga K "Change")) = some true := T.kio 10 (z := ("Change", "Change", true)) rfl
theorem i_Change_Sheet (T : TX K mg) : PySem.W.kitOne K (.ref (He.ga K "Change")) (.ref (He.ga K "Sheet")) = some false := T.kio 11 (z := ("Change", "Sheet", false)) rfl
theorem i_Sheet_Block (T : TX K mg) : PySem.W.kitOne K (.ref (He.ga K "Sheet")) (.ref (He.ga K "Block")) = some false := T.kio 12 (z := ("Sheet", "Block", false)) rfl
theorem i_Sheet_Area (T : TX K mg) : PySem.W.kitOne K (.ref (He.ga K "Sheet")) (.ref (He.ga K "Area")) = some false := T.kio 13 (z := ("Sheet", "Area", false)) rfl
theorem i_Sheet_Change (T : TX K mg) : PySem.W.kitOne K (.ref (He.ga K "Sheet")) (.ref (He.ga K "Change")) = some false := T.kio 14 (z := ("Sheet", "Change", false)) rfl
theorem i_Sheet_Sheet (T : TX K mg) : PySem.W.kitOne K (.ref (He.ga K "Sheet")) (.ref (He.ga K "Sheet")) = some true := T.kio 15 (z := ("Sheet", "Sheet", true)) rfl
theorem i_Block_int (T : TX K mg) : PySem.W.kitOne K (.ref (He.ga K "Block")) (.type "int") = some false := T.kib 0 (z := ("Block", "int")) rfl
theorem i_Block_bool (T : TX K mg) : PySem.W.kitOne K (.ref (He.ga K "Block")) (.type "bool") = some false := T.kib 1 (z := ("Block", "bool")) rfl
theorem i_Block_str (T : TX K mg) : PySem.W.kitOne K (.ref (He.ga K "Block")) (.type "str") = some false := T.kib 2 (z := ("Block", "str")) rfl
theorem i_Block_list (T : TX K mg) : PySem.W.kitOne K (.ref (He.ga K "Block")) (.type "list") = some false := T.kib 3 (z := ("Block", "list")) rfl
theorem i_Block_tuple (T : TX K mg) : PySem.W.kitOne K (.ref (He.ga K "Block")) (.type "tuple") = some false := T.kib 4 (z := ("Block", "tuple")) rfl
theorem i_Block_dict (T : TX K mg) : PySem.W.kitOne K (.ref (He.ga K "Block")) (.type "dict") = some false := T.kib 5 (z := ("Block", "dict")) rfl
theorem i_Area_int (T : TX K mg) : PySem.W.kitOne K (.ref (He.ga K "Area")) (.type "int") = some false := T.kib 6 (z := ("Area", "int")) rfl
theorem i_Area_bool (T : TX K mg) : PySem.W.kitOne K (.ref (He.ga K "Area")) (.type "bool") = some false := T.kib 7 (z := ("Area", "bool")) rfl
theorem i_Area_str (T : TX K mg) : PySem.W.kitOne K (.ref (He.ga K "Area")) (.type "str") = some false := T.kib 8 (z := ("Area", "str")) rfl
theorem i_Area_list (T : TX K mg) : PySem.W.kitOne K (.ref (He.ga K "Area")) (.type "list") = some false := T.kib 9 (z := ("Area", "list")) rfl
theorem i_Area_tuple (T : TX K mg) : PySem.W.kitOne K (.ref (He.ga K "Area")) (.type "tuple") = some false := T.kib 10 (z := ("Area", "tuple")) rfl
theorem i_Area_dict (T : TX K mg) : PySem.W.kitOne K (.ref (He.ga K "Area")) (.type "dict") = some false := T.kib 11 (z := ("Area", "dict")) rfl
theorem i_Change_int (T : TX K mg) : PySem.W.kitOne K (.ref (He.ga K "Change")) (.type "int") = some false := T.kib 12 (z := ("Change", "int")) rfl
theorem i_Change_bool (T : TX K mg) : PySem.W.kitOne K (.ref (He.ga K "Change")) (.type "bool") = some false := T.kib 13 (z := ("Change", "bool")) rfl
theorem i_Change_str (T : TX K mg) : PySem.W.kitOne K (.ref (He.ga K "Change")) (.type "str") = some false := T.kib 14 (z := ("Change", "str")) rfl
theorem i_Change_list (T : TX K mg) : PySem.W.kitOne K (.ref (He.ga K "Change")) (.type "list") = some false := T.kib 15 (z := ("Change", "list")) rfl
theorem i_Change_tuple (T : TX K mg) : PySem.W.kitOne K (.ref (He.ga K "Change")) (.type "tuple") = some false := T.kib 16 (z := ("Change", "tuple")) rfl
theorem i_Change_dict (T : TX K mg) : PySem.W.kitOne K (.ref (He.ga K "Change")) (.type "dict") = some false := T.kib 17 (z := ("Change", "dict")) rfl
theorem i_Sheet_int (T : TX K mg) : PySem.W.kitOne K (.ref (He.ga K "Sheet")) (.type "int") = some false := T.kib 18 (z := ("Sheet", "int")) rfl
theorem i_Sheet_bool (T : TX K mg) : PySem.W.kitOne K (.ref (He.ga K "Sheet")) (.type "bool") = some false := T.kib 19 (z := ("Sheet", "bool")) rfl
theorem i_Sheet_str (T : TX K mg) : PySem.W.kitOne K (.ref (He.ga K "Sheet")) (.type "str") = some false := T.kib 20 (z := ("Sheet", "str")) rfl
theorem i_Sheet_list (T : TX K mg) : PySem.W.kitOne K (.ref (He.ga K "Sheet")) (.type "list") = some false := T.kib 21 (z := ("Sheet", "list")) rfl
theorem i_Sheet_tuple (T : TX K mg) : PySem.W.kitOne K (.ref (He.ga K "Sheet")) (.type "tuple") = some false := T.kib 22 (z := ("Sheet", "tuple")) rfl
theorem i_Sheet_dict (T : TX K mg) : PySem.W.kitOne K (.ref (He.ga K "Sheet")) (.type "dict") = some false := T.kib 23 (z := ("Sheet", "dict")) rfl
theorem i_int_Block (T : TX K mg) : PySem.W.kitOne K (.type "int") (.ref (He.ga K "Block")) = some false := T.kit 0 (z := ("int", "Block")) rfl
theorem i_bool_Block (T : TX K mg) : PySem.W.kitOne K (.type "bool") (.ref (He.ga K "Block")) = some false := T.kit 1 (z := ("bool", "Block")) rfl
theorem i_str_Block (T : TX K mg) : PySem.W.kitOne K (.type "str") (.ref (He.ga K "Block")) = some false := T.kit 2 (z := ("str", "Block")) rfl
theorem i_list_Block (T : TX K mg) : PySem.W.kitOne K (.type "list") (.ref (He.ga K "Block")) = some false := T.kit 3 (z := ("list", "Block")) rfl
theorem i_tuple_Block (T : TX K mg) : PySem.W.kitOne K (.type "tuple") (.ref (He.ga K "Block")) = some false := T.kit 4 (z := ("tuple", "Block")) rfl
theorem i_dict_Block (T : TX K mg) : PySem.W.kitOne K (.type "dict") (.ref (He.ga K "Block")) = some false := T.kit 5 (z := ("dict", "Block")) rfl
theorem i_NoneType_Block (T : TX K mg) : PySem.W.kitOne K (.type "NoneType") (.ref (He.ga K "Block")) = some false := T.kit 6 (z := ("NoneType", "Block")) rfl
theorem i_int_Area (T : TX K mg) : PySem.W.kitOne K (.type "int") (.ref (He.ga K "Area")) = some false := T.kit 7 (z := ("int", "Area")) rfl
theorem i_bool_Area (T : TX K mg) : PySem.W.kitOne K (.type "bool") (.ref (He.ga K "Area")) = some false := T.kit 8 (z := ("bool", "Area")) rfl
theorem i_str_Area (T : TX K mg) : PySem.W.kitOne K (.type "str") (.ref (He.ga K "Area")) = some false := T.kit 9 (z := ("str", "Area")) rfl
theorem i_list_Area (T : TX K mg) : PySem.W.kitOne K (.type "list") (.ref (He.ga K "Area")) = some false := T.kit 10 (z := ("list", "Area")) rfl
theorem i_tuple_Area (T : TX K mg) : PySem.W.kitOne K (.type "tuple") (.ref (He.ga K "Area")) = some false := T.kit 11 (z := ("tuple", "Area")) rfl
theorem i_dict_Area (T : TX K mg) : PySem.W.kitOne K (.type "dict") (.ref (He.ga K "Area")) = some false := T.kit 12 (z := ("dict", "Area")) rfl
theorem i_NoneType_Area (T : TX K mg) : PySem.W.kitOne K (.type "NoneType") (.ref (He.ga K "Area")) = some false := T.kit 13 (z := ("NoneType", "Area")) rfl
theorem i_int_Change (T : TX K mg) : PySem.W.kitOne K (.type "int") (.ref (He.ga K "Change")) = some false := T.kit 14 (z := ("int", "Change")) rfl
theorem i_bool_Change (T : TX K mg) : PySem.W.kitOne K (.type "bool") (.ref (He.ga K "Change")) = some false := T.kit 15 (z := ("bool", "Change")) rfl
theorem i_str_Change (T : TX K mg) : PySem.W.kitOne K (.type "str") (.ref (He.ga K "Change")) = some false := T.kit 16 (z := ("str", "Change")) rfl
theorem i_list_Change (T : TX K mg) : PySem.W.kitOne K (.type "list") (.ref (He.ga K "Change")) = some false := T.kit 17 (z := ("list", "Change")) rfl
theorem i_tuple_Change (T : TX K mg) : PySem.W.kitOne K (.type "tuple") (.ref (He.ga K "Change")) = some false := T.kit 18 (z := ("tuple", "Change")) rfl
theorem i_dict_Change (T : TX K mg) : PySem.W.kitOne K (.type "dict") (.ref (He.ga K "Change")) = some false := T.kit 19 (z := ("dict", "Change")) rfl
theorem i_NoneType_Change (T : TX K mg) : PySem.W.kitOne K (.type "NoneType") (.ref (He.ga K "Change")) = some false := T.kit 20 (z := ("NoneType", "Change")) rfl
theorem i_int_Sheet (T : TX K mg) : PySem.W.kitOne K (.type "int") (.ref (He.ga K "Sheet")) = some false := T.kit 21 (z := ("int", "Sheet")) rfl
theorem i_bool_Sheet (T : TX K mg) : PySem.W.kitOne K (.type "bool") (.ref (He.ga K "Sheet")) = some false := T.kit 22 (z := ("bool", "Sheet")) rfl
theorem i_str_Sheet (T : TX K mg) : PySem.W.kitOne K (.type "str") (.ref (He.ga K "Sheet")) = some false := T.kit 23 (z := ("str", "Sheet")) rfl
theorem i_list_Sheet (T : TX K mg) : PySem.W.kitOne K (.type "list") (.ref (He.ga K "Sheet")) = some false := T.kit 24 (z := ("list", "Sheet")) rfl
theorem i_tuple_Sheet (T : TX K mg) : PySem.W.kitOne K (.type "tuple") (.ref (He.ga K "Sheet")) = some false := T.kit 25 (z := ("tuple", "Sheet")) rfl
theorem i_dict_Sheet (T : TX K mg) : PySem.W.kitOne K (.type "dict") (.ref (He.ga K "Sheet")) = some false := T.kit 26 (z := ("dict", "Sheet")) rfl
theorem i_NoneType_Sheet (T : TX K mg) : PySem.W.kitOne K (.type "NoneType") (.ref (He.ga K "Sheet")) = some false := T.kit 27 (z := ("NoneType", "Sheet")) rfl
abbrev f_is_whole (K : PySem.W.Frag) : Addr := (He.ga K "is_whole")
theorem F_is_whole (T : TX K mg) : FunD K "is_whole" "is_whole" (defArgs s_is_whole) (defBody s_is_whole) (defScope s_is_whole) [] [] (f_is_whole K) (fdO K (f_is_whole K)) := fdO_of (T.def_ 0 (d := d_is_whole) rfl)
theorem b_is_whole (T : TX K mg) : Binds K (fdO K (f_is_whole K)) ["thing"] [] := (F_is_whole T).bindsN fun _ _ _ _ _ _ us hl => match us, hl with | [_], _ => rfl
abbrev f_is_count (K : PySem.W.Frag) : Addr := (He.ga K "is_count")
theorem F_is_count (T : TX K mg) : FunD K "is_count" "is_count" (defArgs s_is_count) (defBody s_is_count) (defScope s_is_count) [] [] (f_is_count K) (fdO K (f_is_count K)) := fdO_of (T.def_ 1 (d := d_is_count) rfl)
theorem b_is_count (T : TX K mg) : Binds K (fdO K (f_is_count K)) ["thing"] [] := (F_is_count T).bindsN fun _ _ _ _ _ _ us hl => match us, hl with | [_], _ => rfl
abbrev f_is_cell (K : PySem.W.Frag) : Addr := (He.ga K "is_cell")
theorem F_is_cell (T : TX K mg) : FunD K "is_cell" "is_cell" (defArgs s_is_cell) (defBody s_is_cell) (defScope s_is_cell) [] [] (f_is_cell K) (fdO K (f_is_cell K)) := fdO_of (T.def_ 2 (d := d_is_cell) rfl)
theorem b_is_cell (T : TX K mg) : Binds K (fdO K (f_is_cell K)) ["thing"] [] := (F_is_cell T).bindsN fun _ _ _ _ _ _ us hl => match us, hl with | [_], _ => rfl
abbrev f_checked_cell (K : PySem.W.Frag) : Addr := (He.ga K "checked_cell")
theorem F_checked_cell (T : TX K mg) : FunD K "checked_cell" "checked_cell" (defArgs s_checked_cell) (defBody s_checked_cell) (defScope s_checked_cell) [] [] (f_checked_cell K) (fdO K (f_checked_cell K)) := fdO_of (T.def_ 3 (d := d_checked_cell) rfl)
theorem b_checked_cell (T : TX K mg) : Binds K (fdO K (f_checked_cell K)) ["thing"] [] := (F_checked_cell T).bindsN fun _ _ _ _ _ _ us hl => match us, hl with | [_], _ => rfl
abbrev f_checked_move (K : PySem.W.Frag) : Addr := (He.ga K "checked_move")
theorem F_checked_move (T : TX K mg) : FunD K "checked_move" "checked_move" (defArgs s_checked_move) (defBody s_checked_move) (defScope s_checked_move) [] [] (f_checked_move K) (fdO K (f_checked_move K)) := fdO_of (T.def_ 4 (d := d_checked_move) rfl)
theorem b_checked_move (T : TX K mg) : Binds K (fdO K (f_checked_move K)) ["rows", "columns"] [] := (F_checked_move T).bindsN fun _ _ _ _ _ _ us hl => match us, hl with | [_, _], _ => rfl
abbrev f_letters_of (K : PySem.W.Frag) : Addr := (He.ga K "letters_of")
theorem F_letters_of (T : TX K mg) : FunD K "letters_of" "letters_of" (defArgs s_letters_of) (defBody s_letters_of) (defScope s_letters_of) [] [] (f_letters_of K) (fdO K (f_letters_of K)) := fdO_of (T.def_ 5 (d := d_letters_of) rfl)
theorem b_letters_of (T : TX K mg) : Binds K (fdO K (f_letters_of K)) ["number"] [] := (F_letters_of T).bindsN fun _ _ _ _ _ _ us hl => match us, hl with | [_], _ => rfl
abbrev f_is_end (K : PySem.W.Frag) : Addr := (He.ga K "is_end")
theorem F_is_end (T : TX K mg) : FunD K "is_end" "is_end" (defArgs s_is_end) (defBody s_is_end) (defScope s_is_end) [] [] (f_is_end K) (fdO K (f_is_end K)) := fdO_of (T.def_ 6 (d := d_is_end) rfl)
theorem b_is_end (T : TX K mg) : Binds K (fdO K (f_is_end K)) ["first", "last"] [] := (F_is_end T).bindsN fun _ _ _ _ _ _ us hl => match us, hl with | [_, _], _ => rfl
abbrev f_is_rows (K : PySem.W.Frag) : Addr := (He.ga K "is_rows")
theorem F_is_rows (T : TX K mg) : FunD K "is_rows" "is_rows" (defArgs s_is_rows) (defBody s_is_rows) (defScope s_is_rows) [] [] (f_is_rows K) (fdO K (f_is_rows K)) := fdO_of (T.def_ 7 (d := d_is_rows) rfl)
theorem b_is_rows (T : TX K mg) : Binds K (fdO K (f_is_rows K)) ["block"] [] := (F_is_rows T).bindsN fun _ _ _ _ _ _ us hl => match us, hl with | [_], _ => rfl
abbrev f_is_columns (K : PySem.W.Frag) : Addr := (He.ga K "is_columns")
theorem F_is_columns (T : TX K mg) : FunD K "is_columns" "is_columns" (defArgs s_is_columns) (defBody s_is_columns) (defScope s_is_columns) [] [] (f_is_columns K) (fdO K (f_is_columns K)) := fdO_of (T.def_ 8 (d := d_is_columns) rfl)
theorem b_is_columns (T : TX K mg) : Binds K (fdO K (f_is_columns K)) ["block"] [] := (F_is_columns T).bindsN fun _ _ _ _ _ _ us hl => match us, hl with | [_], _ => rfl
abbrev f_letters_ahead (K : PySem.W.Frag) : Addr := (He.ga K "letters_ahead")
theorem F_letters_ahead (T : TX K mg) : FunD K "letters_ahead" "letters_ahead" (defArgs s_letters_ahead) (defBody s_letters_ahead) (defScope s_letters_ahead) [] [] (f_letters_ahead K) (fdO K (f_letters_ahead K)) := fdO_of (T.def_ 9 (d := d_letters_ahead) rfl)
theorem b_letters_ahead (T : TX K mg) : Binds K (fdO K (f_letters_ahead K)) ["row", "column"] [] := (F_letters_ahead T).bindsN fun _ _ _ _ _ _ us hl => match us, hl with | [_, _], _ => rfl
abbrev f_by_ends (K : PySem.W.Frag) : Addr := (He.ga K "by_ends")
theorem F_by_ends (T : TX K mg) : FunD K "by_ends" "by_ends" (defArgs s_by_ends) (defBody s_by_ends) (defScope s_by_ends) [] [] (f_by_ends K) (fdO K (f_by_ends K)) := fdO_of (T.def_ 10 (d := d_by_ends) rfl)
theorem b_by_ends (T : TX K mg) : Binds K (fdO K (f_by_ends K)) ["block", "rows", "columns", "together"] [] := (F_by_ends T).bindsN fun _ _ _ _ _ _ us hl => match us, hl with | [_, _, _, _], _ => rfl
abbrev f_Block___init__ (K : PySem.W.Frag) : Addr := (He.ma K (He.ga K "Block") "__init__")
theorem F_Block___init__ (T : TX K mg) : FunD K "__init__" "Block.__init__" (defArgs s_Block___init__) (defBody s_Block___init__) (defScope s_Block___init__) [(V.int 1 : V), (V.int 1 : V), (V.non : V), (V.non : V)] [] (f_Block___init__ K) (fdO K (f_Block___init__ K)) := fdO_of (T.def_ 11 (d := d_Block___init__) rfl)
theorem b_Block___init___1 (T : TX K mg) : ∃ ds, Vals [(V.int 1 : V), (V.int 1 : V), (V.non : V), (V.non : V)] ds ∧ Binds K (fdO K (f_Block___init__ K)) ["self", "top", "left", "bottom", "right"] ds := (F_Block___init__ T).binds1 1 0 (by decide) (by decide) fun _ _ _ _ _ _ _ us its hl hi => match us, its, hl, hi with | [_], [_, _, _, _], _, _ => ⟨_, rfl, rfl⟩
theorem b_Block___init___2 (T : TX K mg) : ∃ ds, Vals [(V.int 1 : V), (V.non : V), (V.non : V)] ds ∧ Binds K (fdO K (f_Block___init__ K)) ["self", "top", "left", "bottom", "right"] ds := (F_Block___init__ T).binds1 2 1 (by decide) (by decide) fun _ _ _ _ _ _ _ us its hl hi => match us, its, hl, hi with | [_, _], [_, _, _, _], _, _ => ⟨_, rfl, rfl⟩
theorem b_Block___init___3 (T : TX K mg) : ∃ ds, Vals [(V.non : V), (V.non : V)] ds ∧ Binds K (fdO K (f_Block___init__ K)) ["self", "top", "left", "bottom", "right"] ds := (F_Block___init__ T).binds1 3 2 (by decide) (by decide) fun _ _ _ _ _ _ _ us its hl hi => match us, its, hl, hi with | [_, _, _], [_, _, _, _], _, _ => ⟨_, rfl, rfl⟩
theorem b_Block___init___4 (T : TX K mg) : ∃ ds, Vals [(V.non : V)] ds ∧ Binds K (fdO K (f_Block___init__ K)) ["self", "top", "left", "bottom", "right"] ds := (F_Block___init__ T).binds1 4 3 (by decide) (by decide) fun _ _ _ _ _ _ _ us its hl hi => match us, its, hl, hi with | [_, _, _, _], [_, _, _, _], _, _ => ⟨_, rfl, rfl⟩
theorem b_Block___init___5 (T : TX K mg) : ∃ ds, Vals [] ds ∧ Binds K (fdO K (f_Block___init__ K)) ["self", "top", "left", "bottom", "right"] ds := (F_Block___init__ T).binds1 5 4 (by decide) (by decide) fun _ _ _ _ _ _ _ us its hl hi => match us, its, hl, hi with | [_, _, _, _, _], [_, _, _, _], _, _ => ⟨_, rfl, rfl⟩
abbrev f_Block___eq__ (K : PySem.W.Frag) : Addr := (He.ma K (He.ga K "Block") "__eq__")
theorem F_Block___eq__ (T : TX K mg) : FunD K "__eq__" "Block.__eq__" (defArgs s_Block___eq__) (defBody s_Block___eq__) (defScope s_Block___eq__) [] [] (f_Block___eq__ K) (fdO K (f_Block___eq__ K)) := fdO_of (T.def_ 12 (d := d_Block___eq__) rfl)
theorem b_Block___eq__ (T : TX K mg) : Binds K (fdO K (f_Block___eq__ K)) ["self", "other"] [] := (F_Block___eq__ T).bindsN fun _ _ _ _ _ _ us hl => match us, hl with | [_, _], _ => rfl
abbrev f_Block___str__ (K : PySem.W.Frag) : Addr := (He.ma K (He.ga K "Block") "__str__")
theorem F_Block___str__ (T : TX K mg) : FunD K "__str__" "Block.__str__" (defArgs s_Block___str__) (defBody s_Block___str__) (defScope s_Block___str__) [] [] (f_Block___str__ K) (fdO K (f_Block___str__ K)) := fdO_of (T.def_ 13 (d := d_Block___str__) rfl)
theorem b_Block___str__ (T : TX K mg) : Binds K (fdO K (f_Block___str__ K)) ["self"] [] := (F_Block___str__ T).bindsN fun _ _ _ _ _ _ us hl => match us, hl with | [_], _ => rfl
abbrev f_Block___repr__ (K : PySem.W.Frag) : Addr := (He.ma K (He.ga K "Block") "__repr__")
theorem F_Block___repr__ (T : TX K mg) : FunD K "__repr__" "Block.__repr__" (defArgs s_Block___repr__) (defBody s_Block___repr__) (defScope s_Block___repr__) [] [] (f_Block___repr__ K) (fdO K (f_Block___repr__ K)) := fdO_of (T.def_ 14 (d := d_Block___repr__) rfl)
theorem b_Block___repr__ (T : TX K mg) : Binds K (fdO K (f_Block___repr__ K)) ["self"] [] := (F_Block___repr__ T).bindsN fun _ _ _ _ _ _ us hl => match us, hl with | [_], _ => rfl
abbrev f_Block_has (K : PySem.W.Frag) : Addr := (He.ma K (He.ga K "Block") "has")
theorem F_Block_has (T : TX K mg) : FunD K "has" "Block.has" (defArgs s_Block_has) (defBody s_Block_has) (defScope s_Block_has) [] [] (f_Block_has K) (fdO K (f_Block_has K)) := fdO_of (T.def_ 15 (d := d_Block_has) rfl)
theorem b_Block_has (T : TX K mg) : Binds K (fdO K (f_Block_has K)) ["self", "cell"] [] := (F_Block_has T).bindsN fun _ _ _ _ _ _ us hl => match us, hl with | [_, _], _ => rfl
abbrev f_Block_size (K : PySem.W.Frag) : Addr := (He.ma K (He.ga K "Block") "size")
theorem F_Block_size (T : TX K mg) : FunD K "size" "Block.size" (defArgs s_Block_size) (defBody s_Block_size) (defScope s_Block_size) [] [] (f_Block_size K) (fdO K (f_Block_size K)) := fdO_of (T.def_ 16 (d := d_Block_size) rfl)
theorem b_Block_size (T : TX K mg) : Binds K (fdO K (f_Block_size K)) ["self"] [] := (F_Block_size T).bindsN fun _ _ _ _ _ _ us hl => match us, hl with | [_], _ => rfl
abbrev f_row_text (K : PySem.W.Frag) : Addr := (He.ga K "row_text")
theorem F_row_text (T : TX K mg) : FunD K "row_text" "row_text" (defArgs s_row_text) (defBody s_row_text) (defScope s_row_text) [] [] (f_row_text K) (fdO K (f_row_text K)) := fdO_of (T.def_ 17 (d := d_row_text) rfl)
theorem b_row_text (T : TX K mg) : Binds K (fdO K (f_row_text K)) ["number"] [] := (F_row_text T).bindsN fun _ _ _ _ _ _ us hl => match us, hl with | [_], _ => rfl
abbrev f_column_text (K : PySem.W.Frag) : Addr := (He.ga K "column_text")
theorem F_column_text (T : TX K mg) : FunD K "column_text" "column_text" (defArgs s_column_text) (defBody s_column_text) (defScope s_column_text) [] [] (f_column_text K) (fdO K (f_column_text K)) := fdO_of (T.def_ 18 (d := d_column_text) rfl)
theorem b_column_text (T : TX K mg) : Binds K (fdO K (f_column_text K)) ["number"] [] := (F_column_text T).bindsN fun _ _ _ _ _ _ us hl => match us, hl with | [_], _ => rfl
abbrev f_is_at (K : PySem.W.Frag) : Addr := (He.ga K "is_at")
theorem F_is_at (T : TX K mg) : FunD K "is_at" "is_at" (defArgs s_is_at) (defBody s_is_at) (defScope s_is_at) [] [] (f_is_at K) (fdO K (f_is_at K)) := fdO_of (T.def_ 19 (d := d_is_at) rfl)
theorem b_is_at (T : TX K mg) : Binds K (fdO K (f_is_at K)) ["first", "last", "number"] [] := (F_is_at T).bindsN fun _ _ _ _ _ _ us hl => match us, hl with | [_, _, _], _ => rfl
abbrev f_stretches (K : PySem.W.Frag) : Addr := (He.ga K "stretches")
theorem F_stretches (T : TX K mg) : FunD K "stretches" "stretches" (defArgs s_stretches) (defBody s_stretches) (defScope s_stretches) [] [] (f_stretches K) (fdO K (f_stretches K)) := fdO_of (T.def_ 20 (d := d_stretches) rfl)
theorem b_stretches (T : TX K mg) : Binds K (fdO K (f_stretches K)) ["cuts"] [] := (F_stretches T).bindsN fun _ _ _ _ _ _ us hl => match us, hl with | [_], _ => rfl
abbrev f_cuts_of (K : PySem.W.Frag) : Addr := (He.ga K "cuts_of")
theorem F_cuts_of (T : TX K mg) : FunD K "cuts_of" "cuts_of" (defArgs s_cuts_of) (defBody s_cuts_of) (defScope s_cuts_of) [] [] (f_cuts_of K) (fdO K (f_cuts_of K)) := fdO_of (T.def_ 21 (d := d_cuts_of) rfl)
theorem b_cuts_of (T : TX K mg) : Binds K (fdO K (f_cuts_of K)) ["ends"] [] := (F_cuts_of T).bindsN fun _ _ _ _ _ _ us hl => match us, hl with | [_], _ => rfl
abbrev f_with_run (K : PySem.W.Frag) : Addr := (He.ga K "with_run")
theorem F_with_run (T : TX K mg) : FunD K "with_run" "with_run" (defArgs s_with_run) (defBody s_with_run) (defScope s_with_run) [] [] (f_with_run K) (fdO K (f_with_run K)) := fdO_of (T.def_ 22 (d := d_with_run) rfl)
theorem b_with_run (T : TX K mg) : Binds K (fdO K (f_with_run K)) ["runs", "first", "last"] [] := (F_with_run T).bindsN fun _ _ _ _ _ _ us hl => match us, hl with | [_, _, _], _ => rfl
abbrev f_runs_by (K : PySem.W.Frag) : Addr := (He.ga K "runs_by")
theorem F_runs_by (T : TX K mg) : FunD K "runs_by" "runs_by" (defArgs s_runs_by) (defBody s_runs_by) (defScope s_runs_by) [] [] (f_runs_by K) (fdO K (f_runs_by K)) := fdO_of (T.def_ 23 (d := d_runs_by) rfl)
theorem b_runs_by (T : TX K mg) : Binds K (fdO K (f_runs_by K)) ["one", "other", "keeps"] [] := (F_runs_by T).bindsN fun _ _ _ _ _ _ us hl => match us, hl with | [_, _, _], _ => rfl
abbrev f_columns_at (K : PySem.W.Frag) : Addr := (He.ga K "columns_at")
theorem F_columns_at (T : TX K mg) : FunD K "columns_at" "columns_at" (defArgs s_columns_at) (defBody s_columns_at) (defScope s_columns_at) [] [] (f_columns_at K) (fdO K (f_columns_at K)) := fdO_of (T.def_ 24 (d := d_columns_at) rfl)
theorem b_columns_at (T : TX K mg) : Binds K (fdO K (f_columns_at K)) ["blocks", "row"] [] := (F_columns_at T).bindsN fun _ _ _ _ _ _ us hl => match us, hl with | [_, _], _ => rfl
abbrev f_bands_by (K : PySem.W.Frag) : Addr := (He.ga K "bands_by")
theorem F_bands_by (T : TX K mg) : FunD K "bands_by" "bands_by" (defArgs s_bands_by) (defBody s_bands_by) (defScope s_bands_by) [] [] (f_bands_by K) (fdO K (f_bands_by K)) := fdO_of (T.def_ 25 (d := d_bands_by) rfl)
theorem b_bands_by (T : TX K mg) : Binds K (fdO K (f_bands_by K)) ["one", "other", "keeps"] [] := (F_bands_by T).bindsN fun _ _ _ _ _ _ us hl => match us, hl with | [_, _, _], _ => rfl
abbrev f_form_of (K : PySem.W.Frag) : Addr := (He.ga K "form_of")
theorem F_form_of (T : TX K mg) : FunD K "form_of" "form_of" (defArgs s_form_of) (defBody s_form_of) (defScope s_form_of) [] [] (f_form_of K) (fdO K (f_form_of K)) := fdO_of (T.def_ 26 (d := d_form_of) rfl)
theorem b_form_of (T : TX K mg) : Binds K (fdO K (f_form_of K)) ["bands"] [] := (F_form_of T).bindsN fun _ _ _ _ _ _ us hl => match us, hl with | [_], _ => rfl
abbrev f_first_cell (K : PySem.W.Frag) : Addr := (He.ga K "first_cell")
theorem F_first_cell (T : TX K mg) : FunD K "first_cell" "first_cell" (defArgs s_first_cell) (defBody s_first_cell) (defScope s_first_cell) [] [] (f_first_cell K) (fdO K (f_first_cell K)) := fdO_of (T.def_ 27 (d := d_first_cell) rfl)
theorem b_first_cell (T : TX K mg) : Binds K (fdO K (f_first_cell K)) ["block"] [] := (F_first_cell T).bindsN fun _ _ _ _ _ _ us hl => match us, hl with | [_], _ => rfl
abbrev f_either (K : PySem.W.Frag) : Addr := (He.ga K "either")
theorem F_either (T : TX K mg) : FunD K "either" "either" (defArgs s_either) (defBody s_either) (defScope s_either) [] [] (f_either K) (fdO K (f_either K)) := fdO_of (T.def_ 28 (d := d_either) rfl)
theorem b_either (T : TX K mg) : Binds K (fdO K (f_either K)) ["one", "other"] [] := (F_either T).bindsN fun _ _ _ _ _ _ us hl => match us, hl with | [_, _], _ => rfl
abbrev f_both (K : PySem.W.Frag) : Addr := (He.ga K "both")
theorem F_both (T : TX K mg) : FunD K "both" "both" (defArgs s_both) (defBody s_both) (defScope s_both) [] [] (f_both K) (fdO K (f_both K)) := fdO_of (T.def_ 29 (d := d_both) rfl)
theorem b_both (T : TX K mg) : Binds K (fdO K (f_both K)) ["one", "other"] [] := (F_both T).bindsN fun _ _ _ _ _ _ us hl => match us, hl with | [_, _], _ => rfl
abbrev f_one_alone (K : PySem.W.Frag) : Addr := (He.ga K "one_alone")
theorem F_one_alone (T : TX K mg) : FunD K "one_alone" "one_alone" (defArgs s_one_alone) (defBody s_one_alone) (defScope s_one_alone) [] [] (f_one_alone K) (fdO K (f_one_alone K)) := fdO_of (T.def_ 30 (d := d_one_alone) rfl)
theorem b_one_alone (T : TX K mg) : Binds K (fdO K (f_one_alone K)) ["one", "other"] [] := (F_one_alone T).bindsN fun _ _ _ _ _ _ us hl => match us, hl with | [_, _], _ => rfl
abbrev f_checked_blocks (K : PySem.W.Frag) : Addr := (He.ga K "checked_blocks")
theorem F_checked_blocks (T : TX K mg) : FunD K "checked_blocks" "checked_blocks" (defArgs s_checked_blocks) (defBody s_checked_blocks) (defScope s_checked_blocks) [] [] (f_checked_blocks K) (fdO K (f_checked_blocks K)) := fdO_of (T.def_ 31 (d := d_checked_blocks) rfl)
theorem b_checked_blocks (T : TX K mg) : Binds K (fdO K (f_checked_blocks K)) ["blocks"] [] := (F_checked_blocks T).bindsN fun _ _ _ _ _ _ us hl => match us, hl with | [_], _ => rfl
abbrev f_checked_area (K : PySem.W.Frag) : Addr := (He.ga K "checked_area")
theorem F_checked_area (T : TX K mg) : FunD K "checked_area" "checked_area" (defArgs s_checked_area) (defBody s_checked_area) (defScope s_checked_area) [] [] (f_checked_area K) (fdO K (f_checked_area K)) := fdO_of (T.def_ 32 (d := d_checked_area) rfl)
theorem b_checked_area (T : TX K mg) : Binds K (fdO K (f_checked_area K)) ["thing"] [] := (F_checked_area T).bindsN fun _ _ _ _ _ _ us hl => match us, hl with | [_], _ => rfl
abbrev f_moved_ends (K : PySem.W.Frag) : Addr := (He.ga K "moved_ends")
theorem F_moved_ends (T : TX K mg) : FunD K "moved_ends" "moved_ends" (defArgs s_moved_ends) (defBody s_moved_ends) (defScope s_moved_ends) [] [] (f_moved_ends K) (fdO K (f_moved_ends K)) := fdO_of (T.def_ 33 (d := d_moved_ends) rfl)
theorem b_moved_ends (T : TX K mg) : Binds K (fdO K (f_moved_ends K)) ["first", "last", "by"] [] := (F_moved_ends T).bindsN fun _ _ _ _ _ _ us hl => match us, hl with | [_, _, _], _ => rfl
abbrev f_moved_block (K : PySem.W.Frag) : Addr := (He.ga K "moved_block")
theorem F_moved_block (T : TX K mg) : FunD K "moved_block" "moved_block" (defArgs s_moved_block) (defBody s_moved_block) (defScope s_moved_block) [] [] (f_moved_block K) (fdO K (f_moved_block K)) := fdO_of (T.def_ 34 (d := d_moved_block) rfl)
theorem b_moved_block (T : TX K mg) : Binds K (fdO K (f_moved_block K)) ["block", "rows", "columns"] [] := (F_moved_block T).bindsN fun _ _ _ _ _ _ us hl => match us, hl with | [_, _, _], _ => rfl
abbrev f_Area___init__ (K : PySem.W.Frag) : Addr := (He.ma K (He.ga K "Area") "__init__")
theorem F_Area___init__ (T : TX K mg) : FunD K "__init__" "Area.__init__" (defArgs s_Area___init__) (defBody s_Area___init__) (defScope s_Area___init__) [(V.non : V)] [] (f_Area___init__ K) (fdO K (f_Area___init__ K)) := fdO_of (T.def_ 35 (d := d_Area___init__) rfl)
theorem b_Area___init___1 (T : TX K mg) : ∃ ds, Vals [(V.non : V)] ds ∧ Binds K (fdO K (f_Area___init__ K)) ["self", "blocks"] ds := (F_Area___init__ T).binds1 1 0 (by decide) (by decide) fun _ _ _ _ _ _ _ us its hl hi => match us, its, hl, hi with | [_], [_], _, _ => ⟨_, rfl, rfl⟩
theorem b_Area___init___2 (T : TX K mg) : ∃ ds, Vals [] ds ∧ Binds K (fdO K (f_Area___init__ K)) ["self", "blocks"] ds := (F_Area___init__ T).binds1 2 1 (by decide) (by decide) fun _ _ _ _ _ _ _ us its hl hi => match us, its, hl, hi with | [_, _], [_], _, _ => ⟨_, rfl, rfl⟩
abbrev f_Area___eq__ (K : PySem.W.Frag) : Addr := (He.ma K (He.ga K "Area") "__eq__")
theorem F_Area___eq__ (T : TX K mg) : FunD K "__eq__" "Area.__eq__" (defArgs s_Area___eq__) (defBody s_Area___eq__) (defScope s_Area___eq__) [] [] (f_Area___eq__ K) (fdO K (f_Area___eq__ K)) := fdO_of (T.def_ 36 (d := d_Area___eq__) rfl)
theorem b_Area___eq__ (T : TX K mg) : Binds K (fdO K (f_Area___eq__ K)) ["self", "other"] [] := (F_Area___eq__ T).bindsN fun _ _ _ _ _ _ us hl => match us, hl with | [_, _], _ => rfl
abbrev f_Area___len__ (K : PySem.W.Frag) : Addr := (He.ma K (He.ga K "Area") "__len__")
theorem F_Area___len__ (T : TX K mg) : FunD K "__len__" "Area.__len__" (defArgs s_Area___len__) (defBody s_Area___len__) (defScope s_Area___len__) [] [] (f_Area___len__ K) (fdO K (f_Area___len__ K)) := fdO_of (T.def_ 37 (d := d_Area___len__) rfl)
theorem b_Area___len__ (T : TX K mg) : Binds K (fdO K (f_Area___len__ K)) ["self"] [] := (F_Area___len__ T).bindsN fun _ _ _ _ _ _ us hl => match us, hl with | [_], _ => rfl
abbrev f_Area___str__ (K : PySem.W.Frag) : Addr := (He.ma K (He.ga K "Area") "__str__")
theorem F_Area___str__ (T : TX K mg) : FunD K "__str__" "Area.__str__" (defArgs s_Area___str__) (defBody s_Area___str__) (defScope s_Area___str__) [] [] (f_Area___str__ K) (fdO K (f_Area___str__ K)) := fdO_of (T.def_ 38 (d := d_Area___str__) rfl)
theorem b_Area___str__ (T : TX K mg) : Binds K (fdO K (f_Area___str__ K)) ["self"] [] := (F_Area___str__ T).bindsN fun _ _ _ _ _ _ us hl => match us, hl with | [_], _ => rfl
abbrev f_Area___repr__ (K : PySem.W.Frag) : Addr := (He.ma K (He.ga K "Area") "__repr__")
theorem F_Area___repr__ (T : TX K mg) : FunD K "__repr__" "Area.__repr__" (defArgs s_Area___repr__) (defBody s_Area___repr__) (defScope s_Area___repr__) [] [] (f_Area___repr__ K) (fdO K (f_Area___repr__ K)) := fdO_of (T.def_ 39 (d := d_Area___repr__) rfl)
theorem b_Area___repr__ (T : TX K mg) : Binds K (fdO K (f_Area___repr__ K)) ["self"] [] := (F_Area___repr__ T).bindsN fun _ _ _ _ _ _ us hl => match us, hl with | [_], _ => rfl
abbrev f_Area_blocks (K : PySem.W.Frag) : Addr := (He.ma K (He.ga K "Area") "blocks")
theorem F_Area_blocks (T : TX K mg) : FunD K "blocks" "Area.blocks" (defArgs s_Area_blocks) (defBody s_Area_blocks) (defScope s_Area_blocks) [] [] (f_Area_blocks K) (fdO K (f_Area_blocks K)) := fdO_of (T.def_ 40 (d := d_Area_blocks) rfl)
theorem b_Area_blocks (T : TX K mg) : Binds K (fdO K (f_Area_blocks K)) ["self"] [] := (F_Area_blocks T).bindsN fun _ _ _ _ _ _ us hl => match us, hl with | [_], _ => rfl
abbrev f_Area_firsts (K : PySem.W.Frag) : Addr := (He.ma K (He.ga K "Area") "firsts")
theorem F_Area_firsts (T : TX K mg) : FunD K "firsts" "Area.firsts" (defArgs s_Area_firsts) (defBody s_Area_firsts) (defScope s_Area_firsts) [] [] (f_Area_firsts K) (fdO K (f_Area_firsts K)) := fdO_of (T.def_ 41 (d := d_Area_firsts) rfl)
theorem b_Area_firsts (T : TX K mg) : Binds K (fdO K (f_Area_firsts K)) ["self"] [] := (F_Area_firsts T).bindsN fun _ _ _ _ _ _ us hl => match us, hl with | [_], _ => rfl
abbrev f_Area_has (K : PySem.W.Frag) : Addr := (He.ma K (He.ga K "Area") "has")
theorem F_Area_has (T : TX K mg) : FunD K "has" "Area.has" (defArgs s_Area_has) (defBody s_Area_has) (defScope s_Area_has) [] [] (f_Area_has K) (fdO K (f_Area_has K)) := fdO_of (T.def_ 42 (d := d_Area_has) rfl)
theorem b_Area_has (T : TX K mg) : Binds K (fdO K (f_Area_has K)) ["self", "cell"] [] := (F_Area_has T).bindsN fun _ _ _ _ _ _ us hl => match us, hl with | [_, _], _ => rfl
abbrev f_Area_size (K : PySem.W.Frag) : Addr := (He.ma K (He.ga K "Area") "size")
theorem F_Area_size (T : TX K mg) : FunD K "size" "Area.size" (defArgs s_Area_size) (defBody s_Area_size) (defScope s_Area_size) [] [] (f_Area_size K) (fdO K (f_Area_size K)) := fdO_of (T.def_ 43 (d := d_Area_size) rfl)
theorem b_Area_size (T : TX K mg) : Binds K (fdO K (f_Area_size K)) ["self"] [] := (F_Area_size T).bindsN fun _ _ _ _ _ _ us hl => match us, hl with | [_], _ => rfl
abbrev f_Area_by (K : PySem.W.Frag) : Addr := (He.ma K (He.ga K "Area") "by")
theorem F_Area_by (T : TX K mg) : FunD K "by" "Area.by" (defArgs s_Area_by) (defBody s_Area_by) (defScope s_Area_by) [] [] (f_Area_by K) (fdO K (f_Area_by K)) := fdO_of (T.def_ 44 (d := d_Area_by) rfl)
theorem b_Area_by (T : TX K mg) : Binds K (fdO K (f_Area_by K)) ["self", "other", "keeps"] [] := (F_Area_by T).bindsN fun _ _ _ _ _ _ us hl => match us, hl with | [_, _, _], _ => rfl
abbrev f_Area_met (K : PySem.W.Frag) : Addr := (He.ma K (He.ga K "Area") "met")
theorem F_Area_met (T : TX K mg) : FunD K "met" "Area.met" (defArgs s_Area_met) (defBody s_Area_met) (defScope s_Area_met) [] [] (f_Area_met K) (fdO K (f_Area_met K)) := fdO_of (T.def_ 45 (d := d_Area_met) rfl)
theorem b_Area_met (T : TX K mg) : Binds K (fdO K (f_Area_met K)) ["self", "other"] [] := (F_Area_met T).bindsN fun _ _ _ _ _ _ us hl => match us, hl with | [_, _], _ => rfl
abbrev f_Area_joined (K : PySem.W.Frag) : Addr := (He.ma K (He.ga K "Area") "joined")
theorem F_Area_joined (T : TX K mg) : FunD K "joined" "Area.joined" (defArgs s_Area_joined) (defBody s_Area_joined) (defScope s_Area_joined) [] [] (f_Area_joined K) (fdO K (f_Area_joined K)) := fdO_of (T.def_ 46 (d := d_Area_joined) rfl)
theorem b_Area_joined (T : TX K mg) : Binds K (fdO K (f_Area_joined K)) ["self", "other"] [] := (F_Area_joined T).bindsN fun _ _ _ _ _ _ us hl => match us, hl with | [_, _], _ => rfl
abbrev f_Area_without (K : PySem.W.Frag) : Addr := (He.ma K (He.ga K "Area") "without")
theorem F_Area_without (T : TX K mg) : FunD K "without" "Area.without" (defArgs s_Area_without) (defBody s_Area_without) (defScope s_Area_without) [] [] (f_Area_without K) (fdO K (f_Area_without K)) := fdO_of (T.def_ 47 (d := d_Area_without) rfl)
theorem b_Area_without (T : TX K mg) : Binds K (fdO K (f_Area_without K)) ["self", "other"] [] := (F_Area_without T).bindsN fun _ _ _ _ _ _ us hl => match us, hl with | [_, _], _ => rfl
abbrev f_Area_others (K : PySem.W.Frag) : Addr := (He.ma K (He.ga K "Area") "others")
theorem F_Area_others (T : TX K mg) : FunD K "others" "Area.others" (defArgs s_Area_others) (defBody s_Area_others) (defScope s_Area_others) [] [] (f_Area_others K) (fdO K (f_Area_others K)) := fdO_of (T.def_ 48 (d := d_Area_others) rfl)
theorem b_Area_others (T : TX K mg) : Binds K (fdO K (f_Area_others K)) ["self"] [] := (F_Area_others T).bindsN fun _ _ _ _ _ _ us hl => match us, hl with | [_], _ => rfl
abbrev f_Area_is_within (K : PySem.W.Frag) : Addr := (He.ma K (He.ga K "Area") "is_within")
theorem F_Area_is_within (T : TX K mg) : FunD K "is_within" "Area.is_within" (defArgs s_Area_is_within) (defBody s_Area_is_within) (defScope s_Area_is_within) [] [] (f_Area_is_within K) (fdO K (f_Area_is_within K)) := fdO_of (T.def_ 49 (d := d_Area_is_within) rfl)
theorem b_Area_is_within (T : TX K mg) : Binds K (fdO K (f_Area_is_within K)) ["self", "other"] [] := (F_Area_is_within T).bindsN fun _ _ _ _ _ _ us hl => match us, hl with | [_, _], _ => rfl
abbrev f_Area_meets (K : PySem.W.Frag) : Addr := (He.ma K (He.ga K "Area") "meets")
theorem F_Area_meets (T : TX K mg) : FunD K "meets" "Area.meets" (defArgs s_Area_meets) (defBody s_Area_meets) (defScope s_Area_meets) [] [] (f_Area_meets K) (fdO K (f_Area_meets K)) := fdO_of (T.def_ 50 (d := d_Area_meets) rfl)
theorem b_Area_meets (T : TX K mg) : Binds K (fdO K (f_Area_meets K)) ["self", "other"] [] := (F_Area_meets T).bindsN fun _ _ _ _ _ _ us hl => match us, hl with | [_, _], _ => rfl
abbrev f_Area_turned (K : PySem.W.Frag) : Addr := (He.ma K (He.ga K "Area") "turned")
theorem F_Area_turned (T : TX K mg) : FunD K "turned" "Area.turned" (defArgs s_Area_turned) (defBody s_Area_turned) (defScope s_Area_turned) [] [] (f_Area_turned K) (fdO K (f_Area_turned K)) := fdO_of (T.def_ 51 (d := d_Area_turned) rfl)
theorem b_Area_turned (T : TX K mg) : Binds K (fdO K (f_Area_turned K)) ["self"] [] := (F_Area_turned T).bindsN fun _ _ _ _ _ _ us hl => match us, hl with | [_], _ => rfl
abbrev f_Area_shifted (K : PySem.W.Frag) : Addr := (He.ma K (He.ga K "Area") "shifted")
theorem F_Area_shifted (T : TX K mg) : FunD K "shifted" "Area.shifted" (defArgs s_Area_shifted) (defBody s_Area_shifted) (defScope s_Area_shifted) [(V.int 0 : V), (V.int 0 : V)] [] (f_Area_shifted K) (fdO K (f_Area_shifted K)) := fdO_of (T.def_ 52 (d := d_Area_shifted) rfl)
theorem b_Area_shifted_1 (T : TX K mg) : ∃ ds, Vals [(V.int 0 : V), (V.int 0 : V)] ds ∧ Binds K (fdO K (f_Area_shifted K)) ["self", "rows", "columns"] ds := (F_Area_shifted T).binds1 1 0 (by decide) (by decide) fun _ _ _ _ _ _ _ us its hl hi => match us, its, hl, hi with | [_], [_, _], _, _ => ⟨_, rfl, rfl⟩
theorem b_Area_shifted_2 (T : TX K mg) : ∃ ds, Vals [(V.int 0 : V)] ds ∧ Binds K (fdO K (f_Area_shifted K)) ["self", "rows", "columns"] ds := (F_Area_shifted T).binds1 2 1 (by decide) (by decide) fun _ _ _ _ _ _ _ us its hl hi => match us, its, hl, hi with | [_, _], [_, _], _, _ => ⟨_, rfl, rfl⟩
theorem b_Area_shifted_3 (T : TX K mg) : ∃ ds, Vals [] ds ∧ Binds K (fdO K (f_Area_shifted K)) ["self", "rows", "columns"] ds := (F_Area_shifted T).binds1 3 2 (by decide) (by decide) fun _ _ _ _ _ _ _ us its hl hi => match us, its, hl, hi with | [_, _, _], [_, _], _, _ => ⟨_, rfl, rfl⟩
abbrev f_Change_checked (K : PySem.W.Frag) : Addr := (He.ma K (He.ga K "Change") "checked")
theorem F_Change_checked (T : TX K mg) : FunD K "checked" "Change.checked" (defArgs s_Change_checked) (defBody s_Change_checked) (defScope s_Change_checked) [] [] (f_Change_checked K) (fdO K (f_Change_checked K)) := fdO_of (T.def_ 53 (d := d_Change_checked) rfl)
theorem b_Change_checked (T : TX K mg) : Binds K (fdO K (f_Change_checked K)) ["self", "numbers"] [] := (F_Change_checked T).bindsN fun _ _ _ _ _ _ us hl => match us, hl with | [_, _], _ => rfl
abbrev f_checked_changes (K : PySem.W.Frag) : Addr := (He.ga K "checked_changes")
theorem F_checked_changes (T : TX K mg) : FunD K "checked_changes" "checked_changes" (defArgs s_checked_changes) (defBody s_checked_changes) (defScope s_checked_changes) [] [] (f_checked_changes K) (fdO K (f_checked_changes K)) := fdO_of (T.def_ 54 (d := d_checked_changes) rfl)
theorem b_checked_changes (T : TX K mg) : Binds K (fdO K (f_checked_changes K)) ["changes"] [] := (F_checked_changes T).bindsN fun _ _ _ _ _ _ us hl => match us, hl with | [_], _ => rfl
abbrev f_area_behind (K : PySem.W.Frag) : Addr := (He.ga K "area_behind")
theorem F_area_behind (T : TX K mg) : FunD K "area_behind" "area_behind" (defArgs s_area_behind) (defBody s_area_behind) (defScope s_area_behind) [] [] (f_area_behind K) (fdO K (f_area_behind K)) := fdO_of (T.def_ 55 (d := d_area_behind) rfl)
theorem b_area_behind (T : TX K mg) : Binds K (fdO K (f_area_behind K)) ["changes", "area"] [] := (F_area_behind T).bindsN fun _ _ _ _ _ _ us hl => match us, hl with | [_, _], _ => rfl
abbrev f_check_value (K : PySem.W.Frag) : Addr := (He.ga K "check_value")
theorem F_check_value (T : TX K mg) : FunD K "check_value" "check_value" (defArgs s_check_value) (defBody s_check_value) (defScope s_check_value) [] [] (f_check_value K) (fdO K (f_check_value K)) := fdO_of (T.def_ 56 (d := d_check_value) rfl)
theorem b_check_value (T : TX K mg) : Binds K (fdO K (f_check_value K)) ["thing"] [] := (F_check_value T).bindsN fun _ _ _ _ _ _ us hl => match us, hl with | [_], _ => rfl
abbrev f_check_sheet (K : PySem.W.Frag) : Addr := (He.ga K "check_sheet")
theorem F_check_sheet (T : TX K mg) : FunD K "check_sheet" "check_sheet" (defArgs s_check_sheet) (defBody s_check_sheet) (defScope s_check_sheet) [] [] (f_check_sheet K) (fdO K (f_check_sheet K)) := fdO_of (T.def_ 57 (d := d_check_sheet) rfl)
theorem b_check_sheet (T : TX K mg) : Binds K (fdO K (f_check_sheet K)) ["thing"] [] := (F_check_sheet T).bindsN fun _ _ _ _ _ _ us hl => match us, hl with | [_], _ => rfl
abbrev f_first_of_part (K : PySem.W.Frag) : Addr := (He.ga K "first_of_part")
theorem F_first_of_part (T : TX K mg) : FunD K "first_of_part" "first_of_part" (defArgs s_first_of_part) (defBody s_first_of_part) (defScope s_first_of_part) [] [] (f_first_of_part K) (fdO K (f_first_of_part K)) := fdO_of (T.def_ 58 (d := d_first_of_part) rfl)
theorem b_first_of_part (T : TX K mg) : Binds K (fdO K (f_first_of_part K)) ["part"] [] := (F_first_of_part T).bindsN fun _ _ _ _ _ _ us hl => match us, hl with | [_], _ => rfl
abbrev f_Sheet___init__ (K : PySem.W.Frag) : Addr := (He.ma K (He.ga K "Sheet") "__init__")
theorem F_Sheet___init__ (T : TX K mg) : FunD K "__init__" "Sheet.__init__" (defArgs s_Sheet___init__) (defBody s_Sheet___init__) (defScope s_Sheet___init__) [] [] (f_Sheet___init__ K) (fdO K (f_Sheet___init__ K)) := fdO_of (T.def_ 59 (d := d_Sheet___init__) rfl)
theorem b_Sheet___init__ (T : TX K mg) : Binds K (fdO K (f_Sheet___init__ K)) ["self"] [] := (F_Sheet___init__ T).bindsN fun _ _ _ _ _ _ us hl => match us, hl with | [_], _ => rfl
abbrev f_Sheet___eq__ (K : PySem.W.Frag) : Addr := (He.ma K (He.ga K "Sheet") "__eq__")
theorem F_Sheet___eq__ (T : TX K mg) : FunD K "__eq__" "Sheet.__eq__" (defArgs s_Sheet___eq__) (defBody s_Sheet___eq__) (defScope s_Sheet___eq__) [] [] (f_Sheet___eq__ K) (fdO K (f_Sheet___eq__ K)) := fdO_of (T.def_ 60 (d := d_Sheet___eq__) rfl)
theorem b_Sheet___eq__ (T : TX K mg) : Binds K (fdO K (f_Sheet___eq__ K)) ["self", "other"] [] := (F_Sheet___eq__ T).bindsN fun _ _ _ _ _ _ us hl => match us, hl with | [_, _], _ => rfl
abbrev f_Sheet___len__ (K : PySem.W.Frag) : Addr := (He.ma K (He.ga K "Sheet") "__len__")
theorem F_Sheet___len__ (T : TX K mg) : FunD K "__len__" "Sheet.__len__" (defArgs s_Sheet___len__) (defBody s_Sheet___len__) (defScope s_Sheet___len__) [] [] (f_Sheet___len__ K) (fdO K (f_Sheet___len__ K)) := fdO_of (T.def_ 61 (d := d_Sheet___len__) rfl)
theorem b_Sheet___len__ (T : TX K mg) : Binds K (fdO K (f_Sheet___len__ K)) ["self"] [] := (F_Sheet___len__ T).bindsN fun _ _ _ _ _ _ us hl => match us, hl with | [_], _ => rfl
abbrev f_Sheet_fill (K : PySem.W.Frag) : Addr := (He.ma K (He.ga K "Sheet") "fill")
theorem F_Sheet_fill (T : TX K mg) : FunD K "fill" "Sheet.fill" (defArgs s_Sheet_fill) (defBody s_Sheet_fill) (defScope s_Sheet_fill) [] [] (f_Sheet_fill K) (fdO K (f_Sheet_fill K)) := fdO_of (T.def_ 62 (d := d_Sheet_fill) rfl)
theorem b_Sheet_fill (T : TX K mg) : Binds K (fdO K (f_Sheet_fill K)) ["self", "area", "value"] [] := (F_Sheet_fill T).bindsN fun _ _ _ _ _ _ us hl => match us, hl with | [_, _, _], _ => rfl
abbrev f_Sheet_hold (K : PySem.W.Frag) : Addr := (He.ma K (He.ga K "Sheet") "hold")
theorem F_Sheet_hold (T : TX K mg) : FunD K "hold" "Sheet.hold" (defArgs s_Sheet_hold) (defBody s_Sheet_hold) (defScope s_Sheet_hold) [] [] (f_Sheet_hold K) (fdO K (f_Sheet_hold K)) := fdO_of (T.def_ 63 (d := d_Sheet_hold) rfl)
theorem b_Sheet_hold (T : TX K mg) : Binds K (fdO K (f_Sheet_hold K)) ["self", "held"] [] := (F_Sheet_hold T).bindsN fun _ _ _ _ _ _ us hl => match us, hl with | [_, _], _ => rfl
abbrev f_Sheet_value (K : PySem.W.Frag) : Addr := (He.ma K (He.ga K "Sheet") "value")
theorem F_Sheet_value (T : TX K mg) : FunD K "value" "Sheet.value" (defArgs s_Sheet_value) (defBody s_Sheet_value) (defScope s_Sheet_value) [] [] (f_Sheet_value K) (fdO K (f_Sheet_value K)) := fdO_of (T.def_ 64 (d := d_Sheet_value) rfl)
theorem b_Sheet_value (T : TX K mg) : Binds K (fdO K (f_Sheet_value K)) ["self", "cell"] [] := (F_Sheet_value T).bindsN fun _ _ _ _ _ _ us hl => match us, hl with | [_, _], _ => rfl
abbrev f_Sheet_where (K : PySem.W.Frag) : Addr := (He.ma K (He.ga K "Sheet") "where")
theorem F_Sheet_where (T : TX K mg) : FunD K "where" "Sheet.where" (defArgs s_Sheet_where) (defBody s_Sheet_where) (defScope s_Sheet_where) [] [] (f_Sheet_where K) (fdO K (f_Sheet_where K)) := fdO_of (T.def_ 65 (d := d_Sheet_where) rfl)
theorem b_Sheet_where (T : TX K mg) : Binds K (fdO K (f_Sheet_where K)) ["self", "value"] [] := (F_Sheet_where T).bindsN fun _ _ _ _ _ _ us hl => match us, hl with | [_, _], _ => rfl
abbrev f_Sheet_told (K : PySem.W.Frag) : Addr := (He.ma K (He.ga K "Sheet") "told")
theorem F_Sheet_told (T : TX K mg) : FunD K "told" "Sheet.told" (defArgs s_Sheet_told) (defBody s_Sheet_told) (defScope s_Sheet_told) [] [] (f_Sheet_told K) (fdO K (f_Sheet_told K)) := fdO_of (T.def_ 66 (d := d_Sheet_told) rfl)
theorem b_Sheet_told (T : TX K mg) : Binds K (fdO K (f_Sheet_told K)) ["self"] [] := (F_Sheet_told T).bindsN fun _ _ _ _ _ _ us hl => match us, hl with | [_], _ => rfl
abbrev f_Sheet_pairs (K : PySem.W.Frag) : Addr := (He.ma K (He.ga K "Sheet") "pairs")
theorem F_Sheet_pairs (T : TX K mg) : FunD K "pairs" "Sheet.pairs" (defArgs s_Sheet_pairs) (defBody s_Sheet_pairs) (defScope s_Sheet_pairs) [] [] (f_Sheet_pairs K) (fdO K (f_Sheet_pairs K)) := fdO_of (T.def_ 67 (d := d_Sheet_pairs) rfl)
theorem b_Sheet_pairs (T : TX K mg) : Binds K (fdO K (f_Sheet_pairs K)) ["self"] [] := (F_Sheet_pairs T).bindsN fun _ _ _ _ _ _ us hl => match us, hl with | [_], _ => rfl
abbrev f_Sheet_change (K : PySem.W.Frag) : Addr := (He.ma K (He.ga K "Sheet") "change")
theorem F_Sheet_change (T : TX K mg) : FunD K "change" "Sheet.change" (defArgs s_Sheet_change) (defBody s_Sheet_change) (defScope s_Sheet_change) [] [] (f_Sheet_change K) (fdO K (f_Sheet_change K)) := fdO_of (T.def_ 68 (d := d_Sheet_change) rfl)
theorem b_Sheet_change (T : TX K mg) : Binds K (fdO K (f_Sheet_change K)) ["self", "change"] [] := (F_Sheet_change T).bindsN fun _ _ _ _ _ _ us hl => match us, hl with | [_, _], _ => rfl
abbrev f_Sheet_laid (K : PySem.W.Frag) : Addr := (He.ma K (He.ga K "Sheet") "laid")
theorem F_Sheet_laid (T : TX K mg) : FunD K "laid" "Sheet.laid" (defArgs s_Sheet_laid) (defBody s_Sheet_laid) (defScope s_Sheet_laid) [(V.int 0 : V), (V.int 0 : V)] [] (f_Sheet_laid K) (fdO K (f_Sheet_laid K)) := fdO_of (T.def_ 69 (d := d_Sheet_laid) rfl)
theorem b_Sheet_laid_2 (T : TX K mg) : ∃ ds, Vals [(V.int 0 : V), (V.int 0 : V)] ds ∧ Binds K (fdO K (f_Sheet_laid K)) ["self", "other", "rows", "columns"] ds := (F_Sheet_laid T).binds1 2 0 (by decide) (by decide) fun _ _ _ _ _ _ _ us its hl hi => match us, its, hl, hi with | [_, _], [_, _], _, _ => ⟨_, rfl, rfl⟩
theorem b_Sheet_laid_3 (T : TX K mg) : ∃ ds, Vals [(V.int 0 : V)] ds ∧ Binds K (fdO K (f_Sheet_laid K)) ["self", "other", "rows", "columns"] ds := (F_Sheet_laid T).binds1 3 1 (by decide) (by decide) fun _ _ _ _ _ _ _ us its hl hi => match us, its, hl, hi with | [_, _, _], [_, _], _, _ => ⟨_, rfl, rfl⟩
theorem b_Sheet_laid_4 (T : TX K mg) : ∃ ds, Vals [] ds ∧ Binds K (fdO K (f_Sheet_laid K)) ["self", "other", "rows", "columns"] ds := (F_Sheet_laid T).binds1 4 2 (by decide) (by decide) fun _ _ _ _ _ _ _ us its hl hi => match us, its, hl, hi with | [_, _, _, _], [_, _], _, _ => ⟨_, rfl, rfl⟩
abbrev f_Sheet_twin (K : PySem.W.Frag) : Addr := (He.ma K (He.ga K "Sheet") "twin")
theorem F_Sheet_twin (T : TX K mg) : FunD K "twin" "Sheet.twin" (defArgs s_Sheet_twin) (defBody s_Sheet_twin) (defScope s_Sheet_twin) [] [] (f_Sheet_twin K) (fdO K (f_Sheet_twin K)) := fdO_of (T.def_ 70 (d := d_Sheet_twin) rfl)
theorem b_Sheet_twin (T : TX K mg) : Binds K (fdO K (f_Sheet_twin K)) ["self"] [] := (F_Sheet_twin T).bindsN fun _ _ _ _ _ _ us hl => match us, hl with | [_], _ => rfl
abbrev f_unlike (K : PySem.W.Frag) : Addr := (He.ga K "unlike")
theorem F_unlike (T : TX K mg) : FunD K "unlike" "unlike" (defArgs s_unlike) (defBody s_unlike) (defScope s_unlike) [] [] (f_unlike K) (fdO K (f_unlike K)) := fdO_of (T.def_ 71 (d := d_unlike) rfl)
theorem b_unlike (T : TX K mg) : Binds K (fdO K (f_unlike K)) ["one", "other"] [] := (F_unlike T).bindsN fun _ _ _ _ _ _ us hl => match us, hl with | [_, _], _ => rfl
abbrev f_unlike_area (K : PySem.W.Frag) : Addr := (He.ga K "unlike_area")
theorem F_unlike_area (T : TX K mg) : FunD K "unlike_area" "unlike_area" (defArgs s_unlike_area) (defBody s_unlike_area) (defScope s_unlike_area) [] [] (f_unlike_area K) (fdO K (f_unlike_area K)) := fdO_of (T.def_ 72 (d := d_unlike_area) rfl)
theorem b_unlike_area (T : TX K mg) : Binds K (fdO K (f_unlike_area K)) ["one", "other"] [] := (F_unlike_area T).bindsN fun _ _ _ _ _ _ us hl => match us, hl with | [_, _], _ => rfl
abbrev f__law_cell_at (K : PySem.W.Frag) : Addr := (He.ga K "_law_cell_at")
theorem F__law_cell_at (T : TX K mg) : FunD K "_law_cell_at" "_law_cell_at" (defArgs s__law_cell_at) (defBody s__law_cell_at) (defScope s__law_cell_at) [] [] (f__law_cell_at K) (fdO K (f__law_cell_at K)) := fdO_of (T.def_ 73 (d := d__law_cell_at) rfl)
theorem b__law_cell_at (T : TX K mg) : Binds K (fdO K (f__law_cell_at K)) ["_law_script", "_law_k"] [] := (F__law_cell_at T).bindsN fun _ _ _ _ _ _ us hl => match us, hl with | [_, _], _ => rfl
abbrev f__law_well (K : PySem.W.Frag) : Addr := (He.ga K "_law_well")
theorem F__law_well (T : TX K mg) : FunD K "_law_well" "_law_well" (defArgs s__law_well) (defBody s__law_well) (defScope s__law_well) [] [] (f__law_well K) (fdO K (f__law_well K)) := fdO_of (T.def_ 74 (d := d__law_well) rfl)
theorem b__law_well (T : TX K mg) : Binds K (fdO K (f__law_well K)) ["_law_cell"] [] := (F__law_well T).bindsN fun _ _ _ _ _ _ us hl => match us, hl with | [_], _ => rfl
abbrev f__law_draw (K : PySem.W.Frag) : Addr := (He.ga K "_law_draw")
theorem F__law_draw (T : TX K mg) : FunD K "_law_draw" "_law_draw" (defArgs s__law_draw) (defBody s__law_draw) (defScope s__law_draw) [] [] (f__law_draw K) (fdO K (f__law_draw K)) := fdO_of (T.def_ 75 (d := d__law_draw) rfl)
theorem b__law_draw (T : TX K mg) : Binds K (fdO K (f__law_draw K)) ["_law_well_here", "_law_many"] [] := (F__law_draw T).bindsN fun _ _ _ _ _ _ us hl => match us, hl with | [_, _], _ => rfl
abbrev f__law_said (K : PySem.W.Frag) : Addr := (He.ga K "_law_said")
theorem F__law_said (T : TX K mg) : FunD K "_law_said" "_law_said" (defArgs s__law_said) (defBody s__law_said) (defScope s__law_said) [] [] (f__law_said K) (fdO K (f__law_said K)) := fdO_of (T.def_ 76 (d := d__law_said) rfl)
theorem b__law_said (T : TX K mg) : Binds K (fdO K (f__law_said K)) ["_law_way", "_law_sheet", "_law_one", "_law_other"] [] := (F__law_said T).bindsN fun _ _ _ _ _ _ us hl => match us, hl with | [_, _, _, _], _ => rfl
abbrev f__law_no_value (K : PySem.W.Frag) : Addr := (He.ga K "_law_no_value")
theorem F__law_no_value (T : TX K mg) : FunD K "_law_no_value" "_law_no_value" (defArgs s__law_no_value) (defBody s__law_no_value) (defScope s__law_no_value) [] [] (f__law_no_value K) (fdO K (f__law_no_value K)) := fdO_of (T.def_ 77 (d := d__law_no_value) rfl)
theorem b__law_no_value (T : TX K mg) : Binds K (fdO K (f__law_no_value K)) ["_law_well_here"] [] := (F__law_no_value T).bindsN fun _ _ _ _ _ _ us hl => match us, hl with | [_], _ => rfl
abbrev f__law_refused_right (K : PySem.W.Frag) : Addr := (He.ga K "_law_refused_right")
theorem F__law_refused_right (T : TX K mg) : FunD K "_law_refused_right" "_law_refused_right" (defArgs s__law_refused_right) (defBody s__law_refused_right) (defScope s__law_refused_right) [] [] (f__law_refused_right K) (fdO K (f__law_refused_right K)) := fdO_of (T.def_ 78 (d := d__law_refused_right) rfl)
theorem b__law_refused_right (T : TX K mg) : Binds K (fdO K (f__law_refused_right K)) ["_law_well_here", "_law_sheet"] [] := (F__law_refused_right T).bindsN fun _ _ _ _ _ _ us hl => match us, hl with | [_, _], _ => rfl
abbrev f_law (K : PySem.W.Frag) : Addr := (He.ga K "law")
theorem F_law (T : TX K mg) : FunD K "law" "law" (defArgs s_law) (defBody s_law) (defScope s_law) [] [] (f_law K) (fdO K (f_law K)) := fdO_of (T.def_ 79 (d := d_law) rfl)
theorem b_law (T : TX K mg) : Binds K (fdO K (f_law K)) ["_law_script"] [] := (F_law T).bindsN fun _ _ _ _ _ _ us hl => match us, hl with | [_], _ => rfl
end
end GT


/-! ## K62A -/
set_option Elab.async false
set_option linter.all false
set_option maxRecDepth 100000
namespace GT
open PySem PySem.Spec PyProof.Rows L2 G
local macro_rules | `(tactic| walk_at "ex") => `(tactic| first | exact Ex.refl _ | assumption | exact Stm.g (by assumption) | (refine Ex.trans ?_ (Stm.g (by assumption)); walk_at "ex"))
local macro_rules | `(tactic| walk_at "st") => `(tactic| first | exact Stm.refl (by assumption) | assumption | (refine Stm.trans ?_ (by assumption); walk_at "st"))
local macro_rules | `(tactic| walk_at "i") => `(tactic| first | assumption | exact Stm.i (by assumption))
local macro_rules | `(tactic| walk_at "fact") => `(tactic| first | rfl | exact (rfl : V.non = optV none) | exact (rfl : V.int _ = optV (some _)) | assumption)
local macro_rules | `(tactic| walk_at "g") => `(tactic| first
  | with_reducible refine x_seq ?_
  | with_reducible refine x_next ?_
  | with_reducible refine x_asg ?_
  | with_reducible refine x_ret ?_
  | with_reducible refine x_retN ?_
  | with_reducible refine x_drop ?_
  | with_reducible refine x_ifs ?_
  | ((with_reducible refine' x_var ?hv ?_); (case hv => exact rfl))
  | with_reducible refine x_c ?_
  | with_reducible refine x_op ?_
  | with_reducible refine x_un ?_
  | with_reducible refine x_test ?_
  | with_reducible refine x_B ?_
  | with_reducible refine x_bl ?_
  | with_reducible refine x_and ?_
  | with_reducible refine x_or ?_
  | with_reducible refine x_not ?_
  | with_reducible refine x_andV ?_
  | with_reducible refine x_orV ?_
  | with_reducible refine x_notV ?_
  | with_reducible refine x_ife ?_
  | with_reducible refine x_isN ?_
  | with_reducible refine x_notN ?_
  | with_reducible refine x_nil ?_
  | with_reducible refine x_cons ?_
  | with_reducible refine x_cb ?_
  | with_reducible refine x_call ?_
  | ((with_reducible refine' x_callL ?hv ?_); (case hv => exact rfl))
  | with_reducible refine x_gname ?_
  | with_reducible refine x_I0 ?_
  | ((with_reducible refine' x_eq ?hv ?_); (case hv => exact rfl))
  | ((with_reducible refine' x_ne ?hv ?_); (case hv => exact rfl))
  | with_reducible refine x_tupG ?_
  | with_reducible refine x_lstG ?_
  | with_reducible refine x_lc ?_
  | (with_reducible refine x_U ?_)
  | ((with_reducible refine' ite_T ?hv ?_); (case hv => exact rfl))
  | ((with_reducible refine' ite_F ?hv ?_); (case hv => exact rfl))
  | with_reducible refine x_for ?_
  | with_reducible refine x_iEnum ?_
  | with_reducible refine x_iList ?_
  | with_reducible refine x_iTup ?_
  | with_reducible refine x_gcons ?_
  | with_reducible refine x_gnil ?_
  | with_reducible refine x_bm ?_
  | with_reducible refine x_fldG ?_
  | with_reducible refine x_meth ?_
  | with_reducible refine x_sl ?_
  | with_reducible refine x_nopart ?_
  | with_reducible refine x_part ?_
  | with_reducible refine x_int ?_
  | with_reducible refine x_yes ?_
  | with_reducible refine x_isNG ?_
  | with_reducible refine x_notNG ?_
  | fail "no step")
local macro_rules | `(tactic| walk_at "g2") => `(tactic| first
  | with_reducible refine x_sfld ?_
  | with_reducible refine x_make ?_
  | with_reducible refine x_dnew ?_
  | with_reducible refine x_lcT ?_
  | with_reducible refine x_lcS ?_
  | with_reducible refine x_disp ?_
  | with_reducible refine x_pcons ?_
  | with_reducible refine x_pnil ?_
  | with_reducible refine x_dnewK ?_
  | with_reducible refine x_dput ?_
  | with_reducible refine x_gsub ?_
  | with_reducible refine x_dget2 ?_
  | with_reducible refine x_litems ?_
  | with_reducible refine x_bmX ?_
  | with_reducible refine x_ckw ?_
  | walk_at "g")
local macro_rules | `(tactic| walk_at "go") => `(tactic| repeat' walk_at "g2")

section
variable {P : Program} {w : World} {K : PySem.W.Frag} {mg : Str → Option Value} {base : Heap}
/-! ### numbers -/
def isIntV : V → Bool
  | .int _ => true
  | _ => false
/-- what isinstance tells of x, of int and of bool -/
def Knd (K : PySem.W.Frag) (H : Hp) (x : V) : Prop := ∃ t b1 b2, TyX K H x t ∧ PySem.W.kitOne K t (.type "int") = some b1 ∧ PySem.W.kitOne K t (.type "bool") = some b2 ∧ (b1 && !b2) = isIntV x
theorem Knd.int {H : Hp} {i : Int} : Knd K H (.int i) := ⟨_, true, false, .base (.int i), kit_ty (by decide +kernel), kit_ty (by decide +kernel), rfl⟩
def sp_is_whole (K : PySem.W.Frag) : Sp := fun vs H Q _ => ∃ x, vs = [x] ∧ Knd K H x ∧ Q (.bl (isIntV x)) H
theorem sc_is_whole : FnScope ["thing"] ["thing"] (defScope s_is_whole) := ⟨rfl, rfl, rfl, by decide +kernel, rfl, by decide +kernel, by decide +kernel⟩
theorem ok_is_whole (T : TX K mg) : FnOk P w K mg base CX0 1 (f_is_whole K) (fdO K (f_is_whole K)) ["thing"] (sp_is_whole K) := by
  refine (F_is_whole T).ok sc_is_whole (fun vs H Q E h => ?_) (fun cdv A outer s H vs Q E hr h => ?_)
  · obtain ⟨_, rfl, _⟩ := h; rfl
  · obtain ⟨x, rfl, ⟨t, b1, b2, ty, k1, k2, e⟩, k⟩ := h
    refine ⟨_, PSs.nox (pss_one (ps_ret (pe_and (pe_callB (isiK (K := K) (by rfl)) (by rfl) (z_isinstance T) PyProof.Rows.boot_isinstance (pa_cons (pv 0) (pa_cons (pe_bltn (v := .ty "int") (by rfl) (z_int T) (by decide +kernel) rfl) pa_nil))) (pe_one (pe_not (pe_callB (isiK (K := K) (by rfl)) (by rfl) (z_isinstance T) PyProof.Rows.boot_isinstance (pa_cons (pv 0) (pa_cons (pe_bltn (v := .ty "bool") (by rfl) (z_bool T) (by decide +kernel) rfl) pa_nil)))))))), ?_⟩
    repeat' walk_at "g"
    refine ⟨x, _, t, _, b1, rfl, .ty "int", ty, k1, ?_⟩
    refine ⟨b1, rfl, ?_⟩
    refine ite_b2 (fun h1 => ?_) (fun h1 => ?_)
    · repeat' walk_at "g"
      refine ⟨x, _, t, _, b2, rfl, .ty "bool", ty, k2, ?_⟩
      repeat' walk_at "g"
      rw [h1, Bool.true_and] at e
      rw [e]; exact k
    · rw [h1, Bool.false_and] at e
      rw [← e] at k; exact k
def countV : V → Bool
  | .int i => decide (1 ≤ i)
  | _ => false
def sp_is_count (K : PySem.W.Frag) : Sp := fun vs H Q _ => ∃ x, vs = [x] ∧ Knd K H x ∧ Q (.bl (countV x)) H
theorem sc_is_count : FnScope ["thing"] ["thing"] (defScope s_is_count) := ⟨rfl, rfl, rfl, by decide +kernel, rfl, by decide +kernel, by decide +kernel⟩
theorem ok_is_count (T : TX K mg) : FnOk P w K mg base CX0 2 (f_is_count K) (fdO K (f_is_count K)) ["thing"] (sp_is_count K) := by
  refine (F_is_count T).ok sc_is_count (fun vs H Q E h => ?_) (fun cdv A outer s H vs Q E hr h => ?_)
  · obtain ⟨_, rfl, _⟩ := h; rfl
  · obtain ⟨x, rfl, kn, k⟩ := h
    refine ⟨_, PSs.nox (pss_one (ps_ret (pe_and (pe_call (ok_is_whole T) (hr.mono (by decide)) (by rfl) (g_is_whole T) (F_is_whole T).kp (b_is_whole T) .nil pass0 (pa_cons (pv 0) pa_nil)) (pe_one (pe_cmpR op_ge (pv 0) pe_int (nomark _)))))), ?_⟩
    repeat' walk_at "g"
    refine ⟨x, rfl, kn, isIntV x, rfl, ?_⟩
    cases x with
    | int i =>
      repeat' walk_at "g"
      exact k
    | _ =>
      repeat' walk_at "g"
      exact k
def sp_is_end (K : PySem.W.Frag) : Sp := fun vs H Q _ => ∃ (a : Int) (o : Option Int), vs = [.int a, optV o] ∧ Q (.bl (match o with | none => true | some l => decide (1 ≤ l) && decide (a ≤ l))) H
theorem sc_is_end : FnScope ["first", "last"] ["first", "last"] (defScope s_is_end) := ⟨rfl, rfl, rfl, by decide +kernel, rfl, by decide +kernel, by decide +kernel⟩
theorem ok_is_end (T : TX K mg) : FnOk P w K mg base CX0 3 (f_is_end K) (fdO K (f_is_end K)) ["first", "last"] (sp_is_end K) := by
  refine (F_is_end T).ok sc_is_end (fun vs H Q E h => ?_) (fun cdv A outer s H vs Q E hr h => ?_)
  · obtain ⟨_, _, rfl, _⟩ := h; rfl
  · obtain ⟨a, o, rfl, k⟩ := h
    refine ⟨_, PSs.nox (pss_one (ps_ret (pe_or (pe_cmpR op_isNG (pv 1) pe_non (nomark _)) (pe_one (pe_and (pe_call (ok_is_count T) (hr.mono (by decide)) (by rfl) (g_is_count T) (F_is_count T).kp (b_is_count T) .nil pass0 (pa_cons (pv 1) pa_nil)) (pe_one (pe_cmpR op_ge (pv 1) (pv 0) (nomark _)))))))), ?_⟩
    cases o with
    | none =>
      repeat' walk_at "g"
      exact k
    | some l =>
      repeat' walk_at "g"
      refine ⟨_, rfl, Knd.int, ?_⟩
      show ∃ c, V.bl (decide (1 ≤ l)) = .bl c ∧ _
      repeat' walk_at "g"
      refine ite_b2 (fun h1 => ?_) (fun h1 => ?_)
      · repeat' walk_at "g"
        simp only [h1, Bool.true_and] at k
        exact k
      · simp only [h1, Bool.false_and] at k
        exact k
def sp_is_at : Sp := fun vs H Q _ => ∃ a l n, vs = [.int a, optV l, .int n] ∧ Q (.bl (isAt a l n)) H
theorem sc_is_at : FnScope ["first", "last", "number"] ["first", "last", "number"] (defScope s_is_at) := ⟨rfl, rfl, rfl, by decide +kernel, rfl, by decide +kernel, by decide +kernel⟩
theorem ok_is_at (T : TX K mg) : FnOk P w K mg base CX0 1 (f_is_at K) (fdO K (f_is_at K)) ["first", "last", "number"] sp_is_at := by
  refine (F_is_at T).ok sc_is_at (fun vs H Q E h => ?_) (fun cdv A outer s H vs Q E hr h => ?_)
  · obtain ⟨_, _, _, rfl, _⟩ := h; rfl
  · obtain ⟨a, l, n, rfl, k⟩ := h
    refine ⟨_, PSs.nox (pss_one (ps_ret (pe_and (pe_cmpR op_le (pv 0) (pv 2) (nomark _)) (pe_one (pe_or (pe_cmpR op_isNG (pv 1) pe_non (nomark _)) (pe_one (pe_cmpR op_le (pv 2) (pv 1) (nomark _)))))))), ?_⟩
    cases l with
    | none =>
      repeat' walk_at "g"
      refine ite_b2 (fun h1 => ?_) (fun h1 => ?_)
      · repeat' walk_at "g"
        simp only [isAt, h1, Bool.true_and] at k
        exact k
      · simp only [isAt, h1, Bool.false_and] at k
        exact k
    | some l =>
      repeat' walk_at "g"
      refine ite_b2 (fun h1 => ?_) (fun h1 => ?_)
      · repeat' walk_at "g"
        simp only [isAt, h1, Bool.true_and] at k
        exact k
      · simp only [isAt, h1, Bool.false_and] at k
        exact k
end
end GT

/-! ## K62B -/
set_option Elab.async false
set_option linter.all false
set_option maxRecDepth 100000
namespace GT
open PySem PySem.Spec PyProof.Rows L2 G
local macro_rules | `(tactic| walk_at "ex") => `(tactic| first | exact Ex.refl _ | assumption | exact Stm.g (by assumption) | (refine Ex.trans ?_ (Stm.g (by assumption)); walk_at "ex"))
local macro_rules | `(tactic| walk_at "st") => `(tactic| first | exact Stm.refl (by assumption) | assumption | (refine Stm.trans ?_ (by assumption); walk_at "st"))
local macro_rules | `(tactic| walk_at "i") => `(tactic| first | assumption | exact Stm.i (by assumption))
local macro_rules | `(tactic| walk_at "fact") => `(tactic| first | rfl | exact (rfl : V.non = optV none) | exact (rfl : V.int _ = optV (some _)) | assumption)
local macro_rules | `(tactic| walk_at "g") => `(tactic| first
  | with_reducible refine x_seq ?_
  | with_reducible refine x_next ?_
  | with_reducible refine x_asg ?_
  | with_reducible refine x_ret ?_
  | with_reducible refine x_retN ?_
  | with_reducible refine x_drop ?_
  | with_reducible refine x_ifs ?_
  | ((with_reducible refine' x_var ?hv ?_); (case hv => exact rfl))
  | with_reducible refine x_c ?_
  | with_reducible refine x_op ?_
  | with_reducible refine x_un ?_
  | with_reducible refine x_test ?_
  | with_reducible refine x_B ?_
  | with_reducible refine x_bl ?_
  | with_reducible refine x_and ?_
  | with_reducible refine x_or ?_
  | with_reducible refine x_not ?_
  | with_reducible refine x_andV ?_
  | with_reducible refine x_orV ?_
  | with_reducible refine x_notV ?_
  | with_reducible refine x_ife ?_
  | with_reducible refine x_isN ?_
  | with_reducible refine x_notN ?_
  | with_reducible refine x_nil ?_
  | with_reducible refine x_cons ?_
  | with_reducible refine x_cb ?_
  | with_reducible refine x_call ?_
  | ((with_reducible refine' x_callL ?hv ?_); (case hv => exact rfl))
  | with_reducible refine x_gname ?_
  | with_reducible refine x_I0 ?_
  | ((with_reducible refine' x_eq ?hv ?_); (case hv => exact rfl))
  | ((with_reducible refine' x_ne ?hv ?_); (case hv => exact rfl))
  | with_reducible refine x_tupG ?_
  | with_reducible refine x_lstG ?_
  | with_reducible refine x_lc ?_
  | (with_reducible refine x_U ?_)
  | ((with_reducible refine' ite_T ?hv ?_); (case hv => exact rfl))
  | ((with_reducible refine' ite_F ?hv ?_); (case hv => exact rfl))
  | with_reducible refine x_for ?_
  | with_reducible refine x_iEnum ?_
  | with_reducible refine x_iList ?_
  | with_reducible refine x_iTup ?_
  | with_reducible refine x_gcons ?_
  | with_reducible refine x_gnil ?_
  | with_reducible refine x_bm ?_
  | with_reducible refine x_fldG ?_
  | with_reducible refine x_meth ?_
  | with_reducible refine x_sl ?_
  | with_reducible refine x_nopart ?_
  | with_reducible refine x_part ?_
  | with_reducible refine x_int ?_
  | with_reducible refine x_yes ?_
  | with_reducible refine x_isNG ?_
  | with_reducible refine x_notNG ?_
  | fail "no step")
local macro_rules | `(tactic| walk_at "g2") => `(tactic| first
  | with_reducible refine x_sfld ?_
  | with_reducible refine x_make ?_
  | with_reducible refine x_dnew ?_
  | with_reducible refine x_lcT ?_
  | with_reducible refine x_lcS ?_
  | with_reducible refine x_disp ?_
  | with_reducible refine x_pcons ?_
  | with_reducible refine x_pnil ?_
  | with_reducible refine x_dnewK ?_
  | with_reducible refine x_dput ?_
  | with_reducible refine x_gsub ?_
  | with_reducible refine x_dget2 ?_
  | with_reducible refine x_litems ?_
  | with_reducible refine x_bmX ?_
  | with_reducible refine x_ckw ?_
  | walk_at "g")
local macro_rules | `(tactic| walk_at "go") => `(tactic| repeat' walk_at "g2")

section
variable {P : Program} {w : World} {K : PySem.W.Frag} {mg : Str → Option Value} {base : Heap}
def sp_stretches : Sp := fun vs H Q _ => ∃ G v xs, vs = [v] ∧ Ex G H ∧ IsL IsI G v xs ∧ xs.length + 1 < scanBound ∧ ∀ G1 H1 r, St G H G1 H1 → IsL IsRn G1 r (stretches xs) → Q r H1
theorem sc_stretches : FnScope ["cuts", "found", "k", "first", "last"] ["cuts"] (defScope s_stretches) := ⟨rfl, rfl, rfl, by decide +kernel, rfl, by decide +kernel, by decide +kernel⟩
theorem ok_stretches (T : TX K mg) : FnOk P w K mg base CX0 1 (f_stretches K) (fdO K (f_stretches K)) ["cuts"] sp_stretches := by
  refine (F_stretches T).ok sc_stretches (fun vs H Q E h => ?_) (fun cdv A outer s H vs Q E hr h => ?_)
  · obtain ⟨_, _, _, rfl, _⟩ := h; rfl
  · obtain ⟨G0, v, xs, rfl, e, hx, hz, k⟩ := h
    refine ⟨_, PSs.nox (pss_cons (ps_set (i := 0) sc_stretches.nd rfl (by first | exact Or.inl rfl | exact Or.inr rfl) (pe_callB (cr_sortedSetA rfl) (by rfl) (z_sorted T) (by decide +kernel) (pa_cons (pe_callTy (cr_setI rfl) (by rfl) (z_set T) (by decide +kernel) (pa_cons (pv 0) pa_nil)) pa_nil)))
      (pss_cons (ps_set (i := 1) sc_stretches.nd rfl (by first | exact Or.inl rfl | exact Or.inr rfl) (pe_lst pa_nil))
      (pss_cons (ps_for PassesOwn.never rfl (pi_enum (by rfl) (z_enumerate T) (pa_cons (pv 0) pa_nil)) (pg_tup (by rfl) (pgs_cons (pg_name (i := 2) sc_stretches.nd rfl (by first | exact Or.inl rfl | exact Or.inr rfl)) (pgs_cons (pg_name (i := 3) sc_stretches.nd rfl (by first | exact Or.inl rfl | exact Or.inr rfl)) pgs_nil))) (pss_cons (ps_set (i := 4) sc_stretches.nd rfl (by first | exact Or.inl rfl | exact Or.inr rfl) pe_non)
      (pss_cons (ps_if (pt_cmpR op_lt (pe_op op_add (pv 2) pe_int) (pe_callB (lenK (K := K) (by rfl)) (by rfl) (z_len T) PySem.boot_len (pa_cons (pv 0) pa_nil)) (nomark _)) (pss_one (ps_set (i := 4) sc_stretches.nd rfl (by first | exact Or.inl rfl | exact Or.inr rfl) (pe_op op_sub (pe_ix (ixLK (K := K) (by rfl)) (pv 0) (pe_op op_add (pv 2) pe_int) (fun _ _ => rfl)) pe_int))) pss_nil)
      (pss_one (ps_expr (pe_bm PySem.F.plainAttrs_list PySem.F.slot_list_append PySem.F.type_list_append mt_append (pv 1) (pa_cons (pe_tup (pa_cons (pv 3) (pa_cons (pv 4) pa_nil))) pa_nil)))))))
      (pss_one (ps_ret (pv 1)))))), ?_⟩
    repeat' walk_at "g"
    refine x_setI hx e hz fun p1 H1 c s1 g1 => ?_
    repeat' walk_at "g"
    refine x_sortedSet (G := G0) g1 s1.i fun p2 Ga Ha s2 hL => ?_
    repeat' walk_at "g"
    refine lstM s2.i (Nat.zero_le _) fun pf H3 hpf s3 m3 => ?_
    repeat' walk_at "g"
    have hlen : (stretches xs).length = (sd xs).length := strOf_len _
    refine enumG (R := IsI) IsI.mono (xs := sd xs) (G := Ga) hL s3.i (fun i σ' G' H' => ∃ v1 v2 v3 acc, σ' = [some (.ref p2), some (.ref pf), v1, v2, v3] ∧ Stm [pf] Ga H3 G' H' ∧ Mu G' H' pf (.lst acc) ∧ Paired (IsRn G') acc ((stretches xs).take i))
      ⟨none, none, none, [], rfl, Stm.refl s3.i, m3, .nil⟩ (fun i σ' G' H' _ ⟨_, _, _, _, _, s, _, _⟩ => ⟨s.g, s.i⟩) ?_ ?_
    · rintro i x w' σ1 G1 H1 T G2 H2 hi ⟨v1, v2, v3, acc, rfl, sA, mA, pA⟩ rfl s5 hT
      have hil : i < (sd xs).length := (List.getElem?_eq_some_iff.mp hi).1
      have mB := s5.mu mA
      have pB := paired_imp (fun a b q => IsRn.mono _ _ a b s5.g q) pA
      have hacc : acc.length < sizeLine := by
        rw [paired_len pA, List.length_take, hlen]
        have := sd_len xs
        have : scanBound ≤ sizeLine := by decide
        omega
      have hs : (stretches xs)[i]? = some (x, ((sd xs)[i + 1]?).map (· - 1)) := strOf_at (sd xs) i x hi
      refine x_gtup hT rfl ?_
      repeat' walk_at "g"
      refine lenL (G := Ga) hL (sA.g.trans s5.g |>.trans s5.i) ?_
      repeat' walk_at "g"
      refine ite_b2 (fun h1 => ?_) (fun h1 => ?_)
      · have h1' := of_decide_eq_true h1
        have hi1 : i + 1 < (sd xs).length := by omega
        repeat' walk_at "g"
        refine x_ixL (G := Ga) (j := i + 1) hL (sA.g.trans s5.g |>.trans s5.i) (List.getElem?_eq_getElem hi1) (by omega) fun w2 hw2 => ?_
        cases hw2
        repeat' walk_at "g"
        refine ⟨x_tyL mB, ?_⟩
        repeat' walk_at "g"
        refine tupI s5.i (by show 2 ≤ 1000; decide) fun pt G3 H4 s6 ht => ?_
        repeat' walk_at "g"
        refine x_app (s6.mu mB) s6.i hacc fun H5 s7 m7 => ?_
        repeat' walk_at "g"
        refine ⟨G3, _, _, _, _, rfl, (sA.trans (St.up s5)).trans ((St.up s6).trans s7), m7, ?_⟩
        rw [take_more hs, List.getElem?_eq_getElem hi1]
        exact paired_snoc ⟨pt, _, _, rfl, ht, rfl, rfl⟩ (paired_imp (fun a b q => IsRn.mono _ _ a b s6.g q) pB)
      · have h1' := of_decide_eq_false h1
        repeat' walk_at "g"
        refine ⟨x_tyL mB, ?_⟩
        repeat' walk_at "g"
        refine tupI s5.i (by show 2 ≤ 1000; decide) fun pt G3 H4 s6 ht => ?_
        repeat' walk_at "g"
        refine x_app (s6.mu mB) s6.i hacc fun H5 s7 m7 => ?_
        repeat' walk_at "g"
        refine ⟨G3, _, _, _, _, rfl, (sA.trans (St.up s5)).trans ((St.up s6).trans s7), m7, ?_⟩
        rw [take_more hs, List.getElem?_eq_none (show (sd xs).length ≤ i + 1 by omega)]
        exact paired_snoc ⟨pt, _, _, rfl, ht, rfl, rfl⟩ (paired_imp (fun a b q => IsRn.mono _ _ a b s6.g q) pB)
    · rintro σ' G' H' ⟨v1, v2, v3, acc, rfl, sA, mA, pA⟩
      rw [← hlen, List.take_length] at pA
      obtain ⟨s8, g8⟩ := freeze mA sA.i
      repeat' walk_at "g"
      refine k (upd G' pf (.lst acc)) H' (.ref pf) ?_ ⟨pf, acc, rfl, g8, paired_imp (fun a b q => IsRn.mono _ _ a b s8.g q) pA⟩
      exact (s1.trans s2).trans (Stm.fresh (Stm.refl s2.i) ((St.up s3).trans (sA.trans s8)) fun a ha => by rw [List.mem_singleton.mp ha]; exact hpf)
end
end GT

/-! ## K62C -/
set_option Elab.async false
set_option linter.all false
set_option maxRecDepth 100000
namespace GT
open PySem PySem.Spec PyProof.Rows L2 G
local macro_rules | `(tactic| walk_at "ex") => `(tactic| first | exact Ex.refl _ | assumption | exact Stm.g (by assumption) | (refine Ex.trans ?_ (Stm.g (by assumption)); walk_at "ex"))
local macro_rules | `(tactic| walk_at "st") => `(tactic| first | exact Stm.refl (by assumption) | assumption | (refine Stm.trans ?_ (by assumption); walk_at "st"))
local macro_rules | `(tactic| walk_at "i") => `(tactic| first | assumption | exact Stm.i (by assumption))
local macro_rules | `(tactic| walk_at "fact") => `(tactic| first | rfl | exact (rfl : V.non = optV none) | exact (rfl : V.int _ = optV (some _)) | assumption)
local macro_rules | `(tactic| walk_at "g") => `(tactic| first
  | with_reducible refine x_seq ?_
  | with_reducible refine x_next ?_
  | with_reducible refine x_asg ?_
  | with_reducible refine x_ret ?_
  | with_reducible refine x_retN ?_
  | with_reducible refine x_drop ?_
  | with_reducible refine x_ifs ?_
  | ((with_reducible refine' x_var ?hv ?_); (case hv => exact rfl))
  | with_reducible refine x_c ?_
  | with_reducible refine x_op ?_
  | with_reducible refine x_un ?_
  | with_reducible refine x_test ?_
  | with_reducible refine x_B ?_
  | with_reducible refine x_bl ?_
  | with_reducible refine x_and ?_
  | with_reducible refine x_or ?_
  | with_reducible refine x_not ?_
  | with_reducible refine x_andV ?_
  | with_reducible refine x_orV ?_
  | with_reducible refine x_notV ?_
  | with_reducible refine x_ife ?_
  | with_reducible refine x_isN ?_
  | with_reducible refine x_notN ?_
  | with_reducible refine x_nil ?_
  | with_reducible refine x_cons ?_
  | with_reducible refine x_cb ?_
  | with_reducible refine x_call ?_
  | ((with_reducible refine' x_callL ?hv ?_); (case hv => exact rfl))
  | with_reducible refine x_gname ?_
  | with_reducible refine x_I0 ?_
  | ((with_reducible refine' x_eq ?hv ?_); (case hv => exact rfl))
  | ((with_reducible refine' x_ne ?hv ?_); (case hv => exact rfl))
  | with_reducible refine x_tupG ?_
  | with_reducible refine x_lstG ?_
  | with_reducible refine x_lc ?_
  | (with_reducible refine x_U ?_)
  | ((with_reducible refine' ite_T ?hv ?_); (case hv => exact rfl))
  | ((with_reducible refine' ite_F ?hv ?_); (case hv => exact rfl))
  | with_reducible refine x_for ?_
  | with_reducible refine x_iEnum ?_
  | with_reducible refine x_iList ?_
  | with_reducible refine x_iTup ?_
  | with_reducible refine x_gcons ?_
  | with_reducible refine x_gnil ?_
  | with_reducible refine x_bm ?_
  | with_reducible refine x_fldG ?_
  | with_reducible refine x_meth ?_
  | with_reducible refine x_sl ?_
  | with_reducible refine x_nopart ?_
  | with_reducible refine x_part ?_
  | with_reducible refine x_int ?_
  | with_reducible refine x_yes ?_
  | with_reducible refine x_isNG ?_
  | with_reducible refine x_notNG ?_
  | fail "no step")
local macro_rules | `(tactic| walk_at "g2") => `(tactic| first
  | with_reducible refine x_sfld ?_
  | with_reducible refine x_make ?_
  | with_reducible refine x_dnew ?_
  | with_reducible refine x_lcT ?_
  | with_reducible refine x_lcS ?_
  | with_reducible refine x_disp ?_
  | with_reducible refine x_pcons ?_
  | with_reducible refine x_pnil ?_
  | with_reducible refine x_dnewK ?_
  | with_reducible refine x_dput ?_
  | with_reducible refine x_gsub ?_
  | with_reducible refine x_dget2 ?_
  | with_reducible refine x_litems ?_
  | with_reducible refine x_bmX ?_
  | with_reducible refine x_ckw ?_
  | walk_at "g")
local macro_rules | `(tactic| walk_at "go") => `(tactic| repeat' walk_at "g2")

section
variable {P : Program} {w : World} {K : PySem.W.Frag} {mg : Str → Option Value} {base : Heap}
/-! ### a block's fields -/
section
variable {G H : Hp} {v : V} {b : Blk} {Q : VK}
theorem fB_top (T : TX K mg) (hb : IsBlk K G v b) (e : Ex G H) (h : Q (.int b.t) H) : FldGo K "top" v H Q := by
  obtain ⟨p, dx, rfl, hp⟩ := hb; exact fldG (e _ _ hp) (k_Block T) (n_Block_top T) (blkF_top b) h
theorem fB_left (T : TX K mg) (hb : IsBlk K G v b) (e : Ex G H) (h : Q (.int b.l) H) : FldGo K "left" v H Q := by
  obtain ⟨p, dx, rfl, hp⟩ := hb; exact fldG (e _ _ hp) (k_Block T) (n_Block_left T) (blkF_left b) h
theorem fB_bottom (T : TX K mg) (hb : IsBlk K G v b) (e : Ex G H) (h : Q (optV b.b) H) : FldGo K "bottom" v H Q := by
  obtain ⟨p, dx, rfl, hp⟩ := hb; exact fldG (e _ _ hp) (k_Block T) (n_Block_bottom T) (blkF_bottom b) h
theorem fB_right (T : TX K mg) (hb : IsBlk K G v b) (e : Ex G H) (h : Q (optV b.r) H) : FldGo K "right" v H Q := by
  obtain ⟨p, dx, rfl, hp⟩ := hb; exact fldG (e _ _ hp) (k_Block T) (n_Block_right T) (blkF_right b) h
end
theorem cuts_ends : ∀ xs : List Rn, ((xs.filter fun x => x.2.isSome).map fun x => x.2.getD 0 + 1) = xs.filterMap fun x => x.2.map (· + 1)
  | [] => rfl
  | (a, none) :: r => by simpa using cuts_ends r
  | (a, some b) :: r => by simpa using cuts_ends r
def sp_cuts_of : Sp := fun vs H Q _ => ∃ G v xs, vs = [v] ∧ Ex G H ∧ IsL IsRn G v xs ∧ xs.length ≤ 1500 ∧ ∀ G1 H1 r, St G H G1 H1 → IsL IsI G1 r (cutsOf xs) → Q r H1
theorem sc_cuts_of : FnScope ["ends", "first", "last"] ["ends"] (defScope s_cuts_of) := ⟨rfl, rfl, rfl, by decide +kernel, rfl, by decide +kernel, by decide +kernel⟩
theorem ok_cuts_of (T : TX K mg) : FnOk P w K mg base CX0 1 (f_cuts_of K) (fdO K (f_cuts_of K)) ["ends"] sp_cuts_of := by
  refine (F_cuts_of T).ok sc_cuts_of (fun vs H Q E h => ?_) (fun cdv A outer s H vs Q E hr h => ?_)
  · obtain ⟨_, _, _, rfl, _⟩ := h; rfl
  · obtain ⟨G0, v, xs, rfl, e, hx, hz, k⟩ := h
    have hz' : xs.length < sizeLine := Nat.lt_of_le_of_lt hz (by decide)
    refine ⟨_, PSs.nox (pss_one (ps_ret (pe_op op_cat (pe_lc (own := [("first", 1), ("last", 2)]) (g := gTup K 2 (gCons (gName 1) (gCons (gName 2) gNil))) (by rfl) sc_cuts_of.nd (pi_list (pv 0)) (blkOk_by (own := [("first", 1), ("last", 2)]) (N := ["ends", "first", "last"]) (sc := defScope s_cuts_of) (by decide +kernel)) (fun _ _ _ _ _ => (pg_tup (by rfl) (pgs_cons (pg_name (i := 1) sc_cuts_of.nd rfl (by first | exact Or.inl rfl | exact Or.inr rfl)) (pgs_cons (pg_name (i := 2) sc_cuts_of.nd rfl (by first | exact Or.inl rfl | exact Or.inr rfl)) pgs_nil)))) (fun _ _ _ _ _ => pts_nil) (fun _ _ _ _ _ => (pv 1))) (pe_lc (own := [("first", 1), ("last", 2)]) (g := gTup K 2 (gCons (gName 1) (gCons (gName 2) gNil))) (by rfl) sc_cuts_of.nd (pi_list (pv 0)) (blkOk_by (own := [("first", 1), ("last", 2)]) (N := ["ends", "first", "last"]) (sc := defScope s_cuts_of) (by decide +kernel)) (fun _ _ _ _ _ => (pg_tup (by rfl) (pgs_cons (pg_name (i := 1) sc_cuts_of.nd rfl (by first | exact Or.inl rfl | exact Or.inr rfl)) (pgs_cons (pg_name (i := 2) sc_cuts_of.nd rfl (by first | exact Or.inl rfl | exact Or.inr rfl)) pgs_nil)))) (fun _ _ _ _ _ => (pts_one (pt_cmpR op_notNG (pv 2) pe_non (nomark _)))) (fun _ _ _ _ _ => (pe_op op_add (pv 2) pe_int)))))), ?_⟩
    repeat' walk_at "g"
    refine lcG (R := IsRn) (S := IsI) IsRn.mono IsI.mono (fun _ => true) (fun x => x.1) e hx hz' (fun x w' G1 H1 N0 N1 _ s1 hw n0 n1 => ?_) fun G1 H1 D s1 hD => ?_
    · refine x_gtup2 hw s1.i fun y z hy hz => ⟨rfl, ?_⟩
      repeat' walk_at "g"
      exact n1 _ _ _ (Stm.refl s1.i) hy rfl
    · repeat' walk_at "g"
      refine lcG (R := IsRn) (S := IsI) IsRn.mono IsI.mono (fun x => x.2.isSome) (fun x => x.2.getD 0 + 1) s1.i (IsL.mono IsRn.mono _ _ _ _ s1.g hx) hz' (fun x w' G2 H2 N0 N1 _ s2 hw n0 n1 => ?_) fun G2 H2 D2 s2 hD2 => ?_
      · refine x_gtup2 hw s2.i fun y z hy hz => ⟨rfl, ?_⟩
        obtain ⟨x1, x2⟩ := x
        cases hy
        cases hz
        cases x2 with
        | none =>
          repeat' walk_at "g"
          exact n0 _ _ (Stm.refl s2.i) rfl
        | some i =>
          repeat' walk_at "g"
          exact n1 _ _ _ (Stm.refl s2.i) rfl rfl
      · have hl : ((xs.filter fun _ => true).map fun x => x.1).length + ((xs.filter fun x => x.2.isSome).map fun x => x.2.getD 0 + 1).length ≤ sizeLine := by
          have h1 := List.length_filter_le (fun _ : Rn => true) xs
          have h2 := List.length_filter_le (fun x : Rn => x.2.isSome) xs
          have : 3000 ≤ sizeLine := by decide
          rw [List.length_map, List.length_map]; omega
        refine catL IsI.mono (IsL.mono IsI.mono _ _ _ _ s2.g hD) hD2 s2.i hl fun p G3 H3 s3 h3 => ?_
        refine k G3 H3 _ ((s1.trans s2).trans s3) ?_
        have e1 : (xs.filter fun _ => true) = xs := by simp
        have e2 : ((xs.filter fun x => x.2.isSome).map fun x => x.2.getD 0 + 1) = xs.filterMap fun x => x.2.map (· + 1) := by
          exact cuts_ends xs
        rw [e1, e2] at h3
        exact h3
end
end GT

/-! ## K62D -/
set_option Elab.async false
set_option linter.all false
set_option maxRecDepth 100000
namespace GT
open PySem PySem.Spec PyProof.Rows L2 G
local macro_rules | `(tactic| walk_at "ex") => `(tactic| first | exact Ex.refl _ | assumption | exact Stm.g (by assumption) | (refine Ex.trans ?_ (Stm.g (by assumption)); walk_at "ex"))
local macro_rules | `(tactic| walk_at "st") => `(tactic| first | exact Stm.refl (by assumption) | assumption | (refine Stm.trans ?_ (by assumption); walk_at "st"))
local macro_rules | `(tactic| walk_at "i") => `(tactic| first | assumption | exact Stm.i (by assumption))
local macro_rules | `(tactic| walk_at "fact") => `(tactic| first | rfl | exact (rfl : V.non = optV none) | exact (rfl : V.int _ = optV (some _)) | assumption)
local macro_rules | `(tactic| walk_at "g") => `(tactic| first
  | with_reducible refine x_seq ?_
  | with_reducible refine x_next ?_
  | with_reducible refine x_asg ?_
  | with_reducible refine x_ret ?_
  | with_reducible refine x_retN ?_
  | with_reducible refine x_drop ?_
  | with_reducible refine x_ifs ?_
  | ((with_reducible refine' x_var ?hv ?_); (case hv => exact rfl))
  | with_reducible refine x_c ?_
  | with_reducible refine x_op ?_
  | with_reducible refine x_un ?_
  | with_reducible refine x_test ?_
  | with_reducible refine x_B ?_
  | with_reducible refine x_bl ?_
  | with_reducible refine x_and ?_
  | with_reducible refine x_or ?_
  | with_reducible refine x_not ?_
  | with_reducible refine x_andV ?_
  | with_reducible refine x_orV ?_
  | with_reducible refine x_notV ?_
  | with_reducible refine x_ife ?_
  | with_reducible refine x_isN ?_
  | with_reducible refine x_notN ?_
  | with_reducible refine x_nil ?_
  | with_reducible refine x_cons ?_
  | with_reducible refine x_cb ?_
  | with_reducible refine x_call ?_
  | ((with_reducible refine' x_callL ?hv ?_); (case hv => exact rfl))
  | with_reducible refine x_gname ?_
  | with_reducible refine x_I0 ?_
  | ((with_reducible refine' x_eq ?hv ?_); (case hv => exact rfl))
  | ((with_reducible refine' x_ne ?hv ?_); (case hv => exact rfl))
  | with_reducible refine x_tupG ?_
  | with_reducible refine x_lstG ?_
  | with_reducible refine x_lc ?_
  | (with_reducible refine x_U ?_)
  | ((with_reducible refine' ite_T ?hv ?_); (case hv => exact rfl))
  | ((with_reducible refine' ite_F ?hv ?_); (case hv => exact rfl))
  | with_reducible refine x_for ?_
  | with_reducible refine x_iEnum ?_
  | with_reducible refine x_iList ?_
  | with_reducible refine x_iTup ?_
  | with_reducible refine x_gcons ?_
  | with_reducible refine x_gnil ?_
  | with_reducible refine x_bm ?_
  | with_reducible refine x_fldG ?_
  | with_reducible refine x_meth ?_
  | with_reducible refine x_sl ?_
  | with_reducible refine x_nopart ?_
  | with_reducible refine x_part ?_
  | with_reducible refine x_int ?_
  | with_reducible refine x_yes ?_
  | with_reducible refine x_isNG ?_
  | with_reducible refine x_notNG ?_
  | fail "no step")
local macro_rules | `(tactic| walk_at "g2") => `(tactic| first
  | with_reducible refine x_sfld ?_
  | with_reducible refine x_make ?_
  | with_reducible refine x_dnew ?_
  | with_reducible refine x_lcT ?_
  | with_reducible refine x_lcS ?_
  | with_reducible refine x_disp ?_
  | with_reducible refine x_pcons ?_
  | with_reducible refine x_pnil ?_
  | with_reducible refine x_dnewK ?_
  | with_reducible refine x_dput ?_
  | with_reducible refine x_gsub ?_
  | with_reducible refine x_dget2 ?_
  | with_reducible refine x_litems ?_
  | with_reducible refine x_bmX ?_
  | with_reducible refine x_ckw ?_
  | walk_at "g")
local macro_rules | `(tactic| walk_at "go") => `(tactic| repeat' walk_at "g2")

section
variable {P : Program} {w : World} {K : PySem.W.Frag} {mg : Str → Option Value} {base : Heap}
def sp_columns_at (K : PySem.W.Frag) : Sp := fun vs H Q _ => ∃ G v xs row, vs = [v, .int row] ∧ Ex G H ∧ IsL (IsBlk K) G v xs ∧ xs.length ≤ 1500 ∧ ∀ G1 H1 r, St G H G1 H1 → IsL IsRn G1 r (columnsAt xs row) → Q r H1
theorem sc_columns_at : FnScope ["blocks", "row", "block"] ["blocks", "row"] (defScope s_columns_at) := ⟨rfl, rfl, rfl, by decide +kernel, rfl, by decide +kernel, by decide +kernel⟩
theorem ok_columns_at (T : TX K mg) : FnOk P w K mg base CX0 2 (f_columns_at K) (fdO K (f_columns_at K)) ["blocks", "row"] (sp_columns_at K) := by
  refine (F_columns_at T).ok sc_columns_at (fun vs H Q E h => ?_) (fun cdv A outer s H vs Q E hr h => ?_)
  · obtain ⟨_, _, _, _, rfl, _⟩ := h; rfl
  · obtain ⟨G0, v, xs, row, rfl, e, hx, hz, k⟩ := h
    have hz' : xs.length < sizeLine := Nat.lt_of_le_of_lt hz (by decide)
    refine ⟨_, PSs.nox (pss_one (ps_ret (pe_lc (own := [("block", 2)]) (g := gName 2) (by rfl) sc_columns_at.nd (pi_list (pv 0)) (blkOk_by (own := [("block", 2)]) (N := ["blocks", "row", "block"]) (sc := defScope s_columns_at) (by decide +kernel)) (fun _ _ _ _ _ => (pg_name (i := 2) sc_columns_at.nd rfl (by first | exact Or.inl rfl | exact Or.inr rfl))) (fun _ _ _ _ _ => (pts_one (pt_val (pe_call (ok_is_at T) (hr.mono (by decide)) (by rfl) (g_is_at T) (F_is_at T).kp (b_is_at T) .nil pass0 (pa_cons (fldK (K := K) (pv 2) (by rfl) (by rfl)) (pa_cons (fldK (K := K) (pv 2) (by rfl) (by rfl)) (pa_cons (pv 1) pa_nil))))))) (fun _ _ _ _ _ => (pe_tup (pa_cons (fldK (K := K) (pv 2) (by rfl) (by rfl)) (pa_cons (fldK (K := K) (pv 2) (by rfl) (by rfl)) pa_nil))))))), ?_⟩
    repeat' walk_at "g"
    refine lcG (R := IsBlk K) (S := IsRn) IsBlk.mono IsRn.mono (fun b => isAt b.t b.b row) (fun b => (b.l, b.r)) e hx hz' (fun x w' G1 H1 N0 N1 _ s1 hw n0 n1 => ?_) fun G1 H1 D s1 hD => k G1 H1 _ s1 hD
    repeat' walk_at "g"
    refine ⟨rfl, ?_⟩
    repeat' walk_at "g"
    refine fB_top T hw s1.i ?_
    walk_at "go"
    refine fB_bottom T hw s1.i ?_
    walk_at "go"
    refine ⟨x.t, x.b, row, rfl, isAt x.t x.b row, rfl, ?_⟩
    refine ite_b2 (fun h1 => ?_) (fun h1 => ?_)
    · repeat' walk_at "g"
      refine fB_left T hw s1.i ?_
      walk_at "go"
      refine fB_right T hw s1.i ?_
      walk_at "go"
      refine tupI s1.i (by show 2 ≤ 1000; decide) fun pt G3 H4 s6 ht => ?_
      exact n1 _ _ _ s6 ⟨pt, _, _, rfl, ht, rfl, rfl⟩ h1
    · exact n0 _ _ (Stm.refl s1.i) h1
def sp_with_run : Sp := fun vs H Q _ => ∃ G v xs a l, vs = [v, .int a, optV l] ∧ Ex G H ∧ IsL IsRn G v xs ∧ xs.length ≤ 4000 ∧ ∀ G1 H1 r, St G H G1 H1 → IsL IsRn G1 r (withRun xs a l) → Q r H1
theorem sc_with_run : FnScope ["runs", "first", "last"] ["runs", "first", "last"] (defScope s_with_run) := ⟨rfl, rfl, rfl, by decide +kernel, rfl, by decide +kernel, by decide +kernel⟩
theorem ok_with_run (T : TX K mg) : FnOk P w K mg base CX0 1 (f_with_run K) (fdO K (f_with_run K)) ["runs", "first", "last"] sp_with_run := by
  refine (F_with_run T).ok sc_with_run (fun vs H Q E h => ?_) (fun cdv A outer s H vs Q E hr h => ?_)
  · obtain ⟨_, _, _, _, _, rfl, _⟩ := h; rfl
  · obtain ⟨G0, v, xs, a, l, rfl, e, hx, hz, k⟩ := h
    refine ⟨_, PSs.nox (pss_cons (ps_if (PW.pt (pw_and (pt_cmpR (op_neD hr.units) (pv 0) (pe_lst pa_nil) (nomark _)) (pw_and1 (pt_cmpR op_eq (pe_ix (ixTK (K := K) (by rfl)) (pe_ix (ixLK (K := K) (by rfl)) (pv 0) (pe_un un_neg pe_int) (fun _ _ => rfl)) pe_int (fun _ _ => rfl)) (pe_op op_sub (pv 1) pe_int) (nomark _))))) (pss_one (ps_ret (pe_op op_cat (pe_slice sl_list (pv 0) po_none (po_some (pe_un un_neg pe_int))) (pe_lst (pa_cons (pe_tup (pa_cons (pe_ix (ixTK (K := K) (by rfl)) (pe_ix (ixLK (K := K) (by rfl)) (pv 0) (pe_un un_neg pe_int) (fun _ _ => rfl)) pe_int (fun _ _ => rfl)) (pa_cons (pv 2) pa_nil))) pa_nil))))) pss_nil)
      (pss_one (ps_ret (pe_op op_cat (pv 0) (pe_lst (pa_cons (pe_tup (pa_cons (pv 1) (pa_cons (pv 2) pa_nil))) pa_nil)))))), ?_⟩
    repeat' walk_at "g"
    refine lstI e (Nat.zero_le _) fun p0 G1 H1 s1 g1 => ?_
    have hx1 := IsL.mono IsRn.mono _ _ _ _ s1.g hx
    refine neNil hx1 s1.i (s1.i _ _ g1) ?_
    walk_at "go"
    have hsz : xs.length + 1 ≤ sizeLine := by
      have : 4001 ≤ sizeLine := by decide
      omega
    have tail : ∀ H, Ex G1 H → withRun xs a l = xs ++ [(a, l)] → St G1 H1 G1 H → tRet (tOp rCat (tVar 0) (tLst (tCons (tTup (tCons (tVar 1) (tCons (tVar 2) tNil))) tNil))) { nx := fun x H' => Q V.non H', rt := Q } (L2.start [Str.ofString "runs", Str.ofString "first", Str.ofString "last"] [v, V.int a, optV l]) H := by
      intro H2 e2 he st2
      walk_at "go"
      refine tupI e2 (by show 2 ≤ 1000; decide) fun pt G3 H3 s3 ht => ?_
      walk_at "go"
      refine lstI s3.i (by show 1 ≤ 1000; decide) fun pl G4 H4 s4 hl => ?_
      have ht' := s4.g _ _ ht
      refine catL IsRn.mono (IsL.mono IsRn.mono _ _ _ _ (s3.trans s4).g hx1) (ys := [(a, l)]) ⟨pl, _, rfl, hl, .cons ⟨pt, _, _, rfl, ht', rfl, rfl⟩ .nil⟩ s4.i hsz fun p G5 H5 s5 h5 => ?_
      rw [← he] at h5
      exact k _ _ _ ((((s1.trans st2).trans s3).trans s4).trans s5) h5
    cases hl : xs.getLast? with
    | none =>
      have en : xs = [] := by simpa using hl
      subst en
      exact tail _ s1.i rfl (Stm.refl s1.i)
    | some z =>
      obtain ⟨a0, b0⟩ := z
      have hne : xs ≠ [] := by intro c; subst c; cases hl
      have hb : (!xs.isEmpty) = true := by simp [hne]
      refine ite_T hb ?_
      walk_at "go"
      refine ixLast hx1 s1.i hl fun w1 hw1 => ?_
      walk_at "go"
      refine x_ixT1 hw1 s1.i fun w2 hw2 => ?_
      cases hw2
      walk_at "go"
      have no : b0 ≠ some (a - 1) → withRun xs a l = xs ++ [(a, l)] := by
        intro h0
        unfold withRun
        rw [hl]
        cases b0 with
        | none => rfl
        | some b => exact if_neg fun c => h0 (congrArg some c)
      refine ⟨by cases b0 <;> rfl, _, rfl, ?_⟩
      by_cases hc : b0 = some (a - 1)
      · subst hc
        refine ite_T (by simp) ?_
        walk_at "go"
        refine sliceInit IsRn.mono hx1 s1.i fun p2 G2 H2 s2 h2 => ?_
        walk_at "go"
        refine ixLast (IsL.mono IsRn.mono _ _ _ _ s2.g hx1) s2.i hl fun w3 hw3 => ?_
        walk_at "go"
        refine x_ixT0 hw3 s2.i fun w4 hw4 => ?_
        cases hw4
        walk_at "go"
        refine tupI s2.i (by show 2 ≤ 1000; decide) fun pt G3 H3 s3 ht => ?_
        walk_at "go"
        refine lstI s3.i (by show 1 ≤ 1000; decide) fun pl G4 H4 s4 hl4 => ?_
        have ht' := s4.g _ _ ht
        have hsz2 : xs.dropLast.length + 1 ≤ sizeLine := by rw [List.length_dropLast]; omega
        refine catL IsRn.mono (IsL.mono IsRn.mono _ _ _ _ (s3.trans s4).g h2) (ys := [(a0, l)]) ⟨pl, _, rfl, hl4, .cons ⟨pt, _, _, rfl, ht', rfl, rfl⟩ .nil⟩ s4.i hsz2 fun p G5 H5 s5 h5 => ?_
        have he : withRun xs a l = xs.dropLast ++ [(a0, l)] := by
          unfold withRun
          rw [hl]
          exact if_pos rfl
        rw [← he] at h5
        exact k _ _ _ ((((s1.trans s2).trans s3).trans s4).trans s5) h5
      · refine ite_F (decide_eq_false fun c => hc ?_) ?_
        · cases b0 with
          | none => cases c
          | some b => exact congrArg some (V.int.inj c)
        · exact tail _ s1.i (no hc) (Stm.refl s1.i)
def spB (f : Bool → Bool → Bool) : Sp := fun vs H Q _ => ∃ a b, vs = [.bl a, .bl b] ∧ Q (.bl (f a b)) H
theorem sc_either : FnScope ["one", "other"] ["one", "other"] (defScope s_either) := ⟨rfl, rfl, rfl, by decide +kernel, rfl, by decide +kernel, by decide +kernel⟩
theorem ok_either (T : TX K mg) : FnOk P w K mg base CX0 1 (f_either K) (fdO K (f_either K)) ["one", "other"] (spB fun a b => a || b) := by
  refine (F_either T).ok sc_either (fun vs H Q E h => ?_) (fun cdv A outer s H vs Q E hr h => ?_)
  · obtain ⟨_, _, rfl, _⟩ := h; rfl
  · obtain ⟨a, b, rfl, k⟩ := h
    refine ⟨_, PSs.nox (pss_one (ps_ret (pe_or (pv 0) (pe_one (pv 1))))), ?_⟩
    walk_at "go"
    cases a
    · walk_at "go"
      exact k
    · exact k
theorem sc_both : FnScope ["one", "other"] ["one", "other"] (defScope s_both) := ⟨rfl, rfl, rfl, by decide +kernel, rfl, by decide +kernel, by decide +kernel⟩
theorem ok_both (T : TX K mg) : FnOk P w K mg base CX0 1 (f_both K) (fdO K (f_both K)) ["one", "other"] (spB fun a b => a && b) := by
  refine (F_both T).ok sc_both (fun vs H Q E h => ?_) (fun cdv A outer s H vs Q E hr h => ?_)
  · obtain ⟨_, _, rfl, _⟩ := h; rfl
  · obtain ⟨a, b, rfl, k⟩ := h
    refine ⟨_, PSs.nox (pss_one (ps_ret (pe_and (pv 0) (pe_one (pv 1))))), ?_⟩
    walk_at "go"
    cases a
    · exact k
    · walk_at "go"
      exact k
theorem sc_one_alone : FnScope ["one", "other"] ["one", "other"] (defScope s_one_alone) := ⟨rfl, rfl, rfl, by decide +kernel, rfl, by decide +kernel, by decide +kernel⟩
theorem ok_one_alone (T : TX K mg) : FnOk P w K mg base CX0 1 (f_one_alone K) (fdO K (f_one_alone K)) ["one", "other"] (spB fun a b => a && !b) := by
  refine (F_one_alone T).ok sc_one_alone (fun vs H Q E h => ?_) (fun cdv A outer s H vs Q E hr h => ?_)
  · obtain ⟨_, _, rfl, _⟩ := h; rfl
  · obtain ⟨a, b, rfl, k⟩ := h
    refine ⟨_, PSs.nox (pss_one (ps_ret (pe_and (pv 0) (pe_one (pe_not (pv 1)))))), ?_⟩
    walk_at "go"
    cases a
    · exact k
    · walk_at "go"
      exact k
/-- what a slot keeps may be -/
inductive Kp (K : PySem.W.Frag) : Addr → (Bool → Bool → Bool) → Prop
  | either : Kp K (He.ga K "either") fun a b => a || b
  | both : Kp K (He.ga K "both") fun a b => a && b
  | one_alone : Kp K (He.ga K "one_alone") fun a b => a && !b
def KpS (K : PySem.W.Frag) (f : Addr) (sp : Sp) : Prop := ∃ g, Kp K f g ∧ sp = spB g
theorem kp_held (T : TX K mg) (f : Addr) (sp : Sp) (h : KpS K f sp) : Held P w K mg base 1 f sp := by
  obtain ⟨g, h, rfl⟩ := h
  cases h
  · exact ⟨⟨_, _, ok_either T, (F_either T).kp, b_either T⟩⟩
  · exact ⟨⟨_, _, ok_both T, (F_both T).kp, b_both T⟩⟩
  · exact ⟨⟨_, _, ok_one_alone T, (F_one_alone T).kp, b_one_alone T⟩⟩
theorem withRun_len (xs : List Rn) (a : Int) (l : Option Int) : (withRun xs a l).length ≤ xs.length + 1 := by
  unfold withRun
  split
  · split
    · simp only [List.length_append, List.length_dropLast, List.length_cons, List.length_nil]; omega
    · simp
  · simp
theorem runs_len (one other : List Rn) (k : Bool → Bool → Bool) : ∀ (ss : List Rn) (acc : List Rn), (ss.foldl (runStep one other k) acc).length ≤ acc.length + ss.length
  | [], acc => Nat.le_refl _
  | s :: ss, acc => by
    have h1 := runs_len one other k ss (runStep one other k acc s)
    have h2 : (runStep one other k acc s).length ≤ acc.length + 1 := by
      unfold runStep
      split
      · exact withRun_len ..
      · omega
    simp only [List.foldl_cons, List.length_cons]
    omega
theorem fold_more {α β : Type} {f : β → α → β} {b : β} {l : List α} {i : Nat} {x : α} (h : l[i]? = some x) : (l.take (i + 1)).foldl f b = f ((l.take i).foldl f b) x := by
  rw [take_more h, List.foldl_append]; rfl
theorem any_all {α : Type} (g : α → Bool) (xs : List α) : ((xs.filter fun _ => true).map g).any id = xs.any g := by
  simp [List.any_map]
theorem cuts_len (xs : List Rn) : (cutsOf xs).length ≤ 2 * xs.length := by
  unfold cutsOf
  have := List.length_filterMap_le (fun e : Rn => e.2.map (· + 1)) xs
  rw [List.length_append, List.length_map]; omega
theorem str_len (xs : List Int) : (stretches xs).length ≤ xs.length := by
  unfold stretches; rw [strOf_len]; exact sd_len xs
def sp_runs_by (K : PySem.W.Frag) : Sp := fun vs H Q _ => ∃ G v u f xs ys g, vs = [v, u, .ref f] ∧ Kp K f g ∧ Ex G H ∧ IsL IsRn G v xs ∧ IsL IsRn G u ys ∧ xs.length + ys.length ≤ 1500 ∧ ∀ G1 H1 r, St G H G1 H1 → IsL IsRn G1 r (runsBy xs ys g) → Q r H1
theorem sc_runs_by : FnScope ["one", "other", "keeps", "found", "first", "last", "in_one", "in_other", "run"] ["one", "other", "keeps"] (defScope s_runs_by) := ⟨rfl, rfl, rfl, by decide +kernel, rfl, by decide +kernel, by decide +kernel⟩
theorem ok_runs_by (T : TX K mg) : FnOk P w K mg base CX0 2 (f_runs_by K) (fdO K (f_runs_by K)) ["one", "other", "keeps"] (sp_runs_by K) := by
  refine (F_runs_by T).ok sc_runs_by (fun vs H Q E h => ?_) (fun cdv A outer s H vs Q E hr h => ?_)
  · obtain ⟨_, _, _, _, _, _, _, rfl, _⟩ := h; rfl
  · obtain ⟨G0, v, u, f, xs, ys, g, rfl, kp, e, hx, hy, hz, k⟩ := h
    have hsz : xs.length + ys.length ≤ sizeLine := Nat.le_trans hz (by decide)
    refine ⟨_, PSs.nox (pss_cons (ps_set (i := 3) sc_runs_by.nd rfl (by first | exact Or.inl rfl | exact Or.inr rfl) (pe_lst pa_nil))
      (pss_cons (ps_for PassesOwn.never rfl (pi_list (pe_call (ok_stretches T) (hr.mono (by decide)) (by rfl) (g_stretches T) (F_stretches T).kp (b_stretches T) .nil pass0 (pa_cons (pe_call (ok_cuts_of T) (hr.mono (by decide)) (by rfl) (g_cuts_of T) (F_cuts_of T).kp (b_cuts_of T) .nil pass0 (pa_cons (pe_op op_cat (pv 0) (pv 1)) pa_nil)) pa_nil))) (pg_tup (by rfl) (pgs_cons (pg_name (i := 4) sc_runs_by.nd rfl (by first | exact Or.inl rfl | exact Or.inr rfl)) (pgs_cons (pg_name (i := 5) sc_runs_by.nd rfl (by first | exact Or.inl rfl | exact Or.inr rfl)) pgs_nil))) (pss_cons (ps_set (i := 6) sc_runs_by.nd rfl (by first | exact Or.inl rfl | exact Or.inr rfl) (pe_callB (cr_any rfl) (by rfl) (z_any T) PyProof.Rows.boot_any (pa_cons (pe_lc (own := [("run", 8)]) (g := gName 8) (by rfl) sc_runs_by.nd (pi_list (pv 0)) (blkOk_by (own := [("run", 8)]) (N := ["one", "other", "keeps", "found", "first", "last", "in_one", "in_other", "run"]) (sc := defScope s_runs_by) (by decide +kernel)) (fun _ _ _ _ _ => (pg_name (i := 8) sc_runs_by.nd rfl (by first | exact Or.inl rfl | exact Or.inr rfl))) (fun _ _ _ _ _ => pts_nil) (fun _ _ _ _ _ => (pe_call (ok_is_at T) (hr.mono (by decide)) (by rfl) (g_is_at T) (F_is_at T).kp (b_is_at T) .nil pass0 (pa_cons (pe_ix (ixTK (K := K) (by rfl)) (pv 8) pe_int (fun _ _ => rfl)) (pa_cons (pe_ix (ixTK (K := K) (by rfl)) (pv 8) pe_int (fun _ _ => rfl)) (pa_cons (pv 4) pa_nil)))))) pa_nil)))
      (pss_cons (ps_set (i := 7) sc_runs_by.nd rfl (by first | exact Or.inl rfl | exact Or.inr rfl) (pe_callB (cr_any rfl) (by rfl) (z_any T) PyProof.Rows.boot_any (pa_cons (pe_lc (own := [("run", 8)]) (g := gName 8) (by rfl) sc_runs_by.nd (pi_list (pv 1)) (blkOk_by (own := [("run", 8)]) (N := ["one", "other", "keeps", "found", "first", "last", "in_one", "in_other", "run"]) (sc := defScope s_runs_by) (by decide +kernel)) (fun _ _ _ _ _ => (pg_name (i := 8) sc_runs_by.nd rfl (by first | exact Or.inl rfl | exact Or.inr rfl))) (fun _ _ _ _ _ => pts_nil) (fun _ _ _ _ _ => (pe_call (ok_is_at T) (hr.mono (by decide)) (by rfl) (g_is_at T) (F_is_at T).kp (b_is_at T) .nil pass0 (pa_cons (pe_ix (ixTK (K := K) (by rfl)) (pv 8) pe_int (fun _ _ => rfl)) (pa_cons (pe_ix (ixTK (K := K) (by rfl)) (pv 8) pe_int (fun _ _ => rfl)) (pa_cons (pv 4) pa_nil)))))) pa_nil)))
      (pss_one (ps_if (pt_val (pe_callO (i := 2) (S := KpS K) (kp_held T) (hr.mono (by decide)) (by rfl) (by first | exact Or.inl rfl | exact Or.inr (Or.inl rfl) | exact Or.inr (Or.inr rfl)) (pa_cons (pv 6) (pa_cons (pv 7) pa_nil)))) (pss_one (ps_set (i := 3) sc_runs_by.nd rfl (by first | exact Or.inl rfl | exact Or.inr rfl) (pe_call (ok_with_run T) (hr.mono (by decide)) (by rfl) (g_with_run T) (F_with_run T).kp (b_with_run T) .nil pass0 (pa_cons (pv 3) (pa_cons (pv 4) (pa_cons (pv 5) pa_nil)))))) pss_nil)))))
      (pss_one (ps_ret (pv 3))))), ?_⟩
    walk_at "go"
    refine lstI e (Nat.zero_le _) fun p0 G1 H1 s1 g1 => ?_
    walk_at "go"
    have hx1 := IsL.mono IsRn.mono _ _ _ _ s1.g hx
    have hy1 := IsL.mono IsRn.mono _ _ _ _ s1.g hy
    refine catL IsRn.mono hx1 hy1 s1.i hsz fun p1 G2 H2 s2 h2 => ?_
    walk_at "go"
    have hl2 : (xs ++ ys).length ≤ 1500 := by rw [List.length_append]; exact hz
    refine ⟨G2, _, _, rfl, s2.i, h2, hl2, fun G3 H3 r3 s3 h3 => ?_⟩
    walk_at "go"
    have hc3 := cuts_len (xs ++ ys)
    have hb : (cutsOf (xs ++ ys)).length + 1 < scanBound := by
      have : 3001 < scanBound := by decide
      omega
    refine ⟨G3, _, _, rfl, s3.i, h3, hb, fun G4 H4 r4 s4 h4 => ?_⟩
    have hx4 := IsL.mono IsRn.mono _ _ _ _ (s2.trans (s3.trans s4)).g hx1
    have hy4 := IsL.mono IsRn.mono _ _ _ _ (s2.trans (s3.trans s4)).g hy1
    have hxl : xs.length < sizeLine := Nat.lt_of_le_of_lt (Nat.le_trans (Nat.le_add_right _ _) hz) (by decide)
    have hyl : ys.length < sizeLine := Nat.lt_of_le_of_lt (Nat.le_trans (Nat.le_add_left _ _) hz) (by decide)
    refine forG IsRn.mono h4 s4.i (fun i σ' G' H' => ∃ vf o1 o2 o3 o4 o5, σ' = [some v, some u, some (.ref f), some vf, o1, o2, o3, o4, o5] ∧ St G4 H4 G' H' ∧ IsL IsRn G' vf (((stretches (cutsOf (xs ++ ys))).take i).foldl (runStep xs ys g) []))
      ⟨.ref p0, none, none, none, none, none, rfl, Stm.refl s4.i, p0, [], rfl, (s2.trans (s3.trans s4)).g _ _ g1, .nil⟩ (fun i σ' G' H' _ ⟨_, _, _, _, _, _, _, s, _⟩ => ⟨s.g, s.i⟩) ?_ ?_
    · rintro i x w' σ1 G5 H5 hi ⟨vf, o1, o2, o3, o4, o5, rfl, sA, hf⟩ hw
      refine x_gtup2 hw sA.i fun w1 w2 hw1 hw2 => ?_
      cases hw1
      cases hw2
      walk_at "go"
      refine lcG (R := IsRn) (S := IsB) IsRn.mono IsB.mono (fun _ => true) (fun r => isAt r.1 r.2 x.1) sA.i (IsL.mono IsRn.mono _ _ _ _ sA.g hx4) hxl (fun r w' G6 H6 N0 N1 _ s6 hr n0 n1 => ?_) fun G6 H6 D6 s6 h6 => ?_
      · refine ⟨rfl, ?_⟩
        walk_at "go"
        refine x_ixT0 hr s6.i fun w3 hw3 => ?_
        cases hw3
        walk_at "go"
        refine x_ixT1 hr s6.i fun w4 hw4 => ?_
        cases hw4
        walk_at "go"
        exact ⟨r.1, r.2, x.1, rfl, n1 _ _ _ (Stm.refl s6.i) rfl rfl⟩
      · walk_at "go"
        refine anyL h6 s6.i ?_
        rw [any_all]
        walk_at "go"
        refine lcG (R := IsRn) (S := IsB) IsRn.mono IsB.mono (fun _ => true) (fun r => isAt r.1 r.2 x.1) s6.i (IsL.mono IsRn.mono _ _ _ _ (sA.trans s6).g hy4) hyl (fun r w' G7 H7 N0 N1 _ s7 hr n0 n1 => ?_) fun G7 H7 D7 s7 h7 => ?_
        · refine ⟨rfl, ?_⟩
          walk_at "go"
          refine x_ixT0 hr s7.i fun w3 hw3 => ?_
          cases hw3
          walk_at "go"
          refine x_ixT1 hr s7.i fun w4 hw4 => ?_
          cases hw4
          walk_at "go"
          exact ⟨r.1, r.2, x.1, rfl, n1 _ _ _ (Stm.refl s7.i) rfl rfl⟩
        · walk_at "go"
          refine anyL h7 s7.i ?_
          rw [any_all]
          walk_at "go"
          refine x_callO rfl ⟨g, kp, rfl⟩ ?_
          walk_at "go"
          refine ⟨_, _, rfl, ?_⟩
          have sB := (sA.trans s6).trans s7
          have hfB := IsL.mono IsRn.mono _ _ _ _ (s6.trans s7).g hf
          have hm := fold_more (f := runStep xs ys g) (b := []) hi
          refine ⟨_, rfl, ite_b2 (fun h1 => ?_) (fun h1 => ?_)⟩
          · walk_at "go"
            have hln : (((stretches (cutsOf (xs ++ ys))).take i).foldl (runStep xs ys g) []).length ≤ 4000 := by
              have q1 := runs_len xs ys g ((stretches (cutsOf (xs ++ ys))).take i) []
              have q2 := str_len (cutsOf (xs ++ ys))
              have q3 : ((stretches (cutsOf (xs ++ ys))).take i).length ≤ (stretches (cutsOf (xs ++ ys))).length := by rw [List.length_take]; exact Nat.min_le_right _ _
              simp only [List.length_nil] at q1
              omega
            refine ⟨G7, _, _, _, _, rfl, s7.i, hfB, hln, fun G8 H8 r8 s8 h8 => ?_⟩
            walk_at "go"
            refine ⟨G8, _, _, _, _, _, _, rfl, sB.trans s8, ?_⟩
            rw [hm]
            unfold runStep
            rw [if_pos h1]
            exact h8
          · walk_at "go"
            refine ⟨G7, _, _, _, _, _, _, rfl, sB, ?_⟩
            rw [hm]
            unfold runStep
            rw [if_neg (by rw [h1]; exact Bool.false_ne_true)]
            exact hfB
    · rintro σ' G' H' ⟨vf, o1, o2, o3, o4, o5, rfl, sA, hf⟩
      rw [List.take_length] at hf
      walk_at "go"
      exact k _ _ _ ((((s1.trans s2).trans s3).trans s4).trans sA) hf
end
end GT

/-! ## K62E -/
set_option Elab.async false
set_option linter.all false
set_option maxRecDepth 100000
namespace GT
open PySem PySem.Spec PyProof.Rows L2 G
local macro_rules | `(tactic| walk_at "ex") => `(tactic| first | exact Ex.refl _ | assumption | exact Stm.g (by assumption) | (refine Ex.trans ?_ (Stm.g (by assumption)); walk_at "ex"))
local macro_rules | `(tactic| walk_at "st") => `(tactic| first | exact Stm.refl (by assumption) | assumption | (refine Stm.trans ?_ (by assumption); walk_at "st"))
local macro_rules | `(tactic| walk_at "i") => `(tactic| first | assumption | exact Stm.i (by assumption))
local macro_rules | `(tactic| walk_at "fact") => `(tactic| first | rfl | exact (rfl : V.non = optV none) | exact (rfl : V.int _ = optV (some _)) | assumption)
local macro_rules | `(tactic| walk_at "g") => `(tactic| first
  | with_reducible refine x_seq ?_
  | with_reducible refine x_next ?_
  | with_reducible refine x_asg ?_
  | with_reducible refine x_ret ?_
  | with_reducible refine x_retN ?_
  | with_reducible refine x_drop ?_
  | with_reducible refine x_ifs ?_
  | ((with_reducible refine' x_var ?hv ?_); (case hv => exact rfl))
  | with_reducible refine x_c ?_
  | with_reducible refine x_op ?_
  | with_reducible refine x_un ?_
  | with_reducible refine x_test ?_
  | with_reducible refine x_B ?_
  | with_reducible refine x_bl ?_
  | with_reducible refine x_and ?_
  | with_reducible refine x_or ?_
  | with_reducible refine x_not ?_
  | with_reducible refine x_andV ?_
  | with_reducible refine x_orV ?_
  | with_reducible refine x_notV ?_
  | with_reducible refine x_ife ?_
  | with_reducible refine x_isN ?_
  | with_reducible refine x_notN ?_
  | with_reducible refine x_nil ?_
  | with_reducible refine x_cons ?_
  | with_reducible refine x_cb ?_
  | with_reducible refine x_call ?_
  | ((with_reducible refine' x_callL ?hv ?_); (case hv => exact rfl))
  | with_reducible refine x_gname ?_
  | with_reducible refine x_I0 ?_
  | ((with_reducible refine' x_eq ?hv ?_); (case hv => exact rfl))
  | ((with_reducible refine' x_ne ?hv ?_); (case hv => exact rfl))
  | with_reducible refine x_tupG ?_
  | with_reducible refine x_lstG ?_
  | with_reducible refine x_lc ?_
  | (with_reducible refine x_U ?_)
  | ((with_reducible refine' ite_T ?hv ?_); (case hv => exact rfl))
  | ((with_reducible refine' ite_F ?hv ?_); (case hv => exact rfl))
  | with_reducible refine x_for ?_
  | with_reducible refine x_iEnum ?_
  | with_reducible refine x_iList ?_
  | with_reducible refine x_iTup ?_
  | with_reducible refine x_gcons ?_
  | with_reducible refine x_gnil ?_
  | with_reducible refine x_bm ?_
  | with_reducible refine x_fldG ?_
  | with_reducible refine x_meth ?_
  | with_reducible refine x_sl ?_
  | with_reducible refine x_nopart ?_
  | with_reducible refine x_part ?_
  | with_reducible refine x_int ?_
  | with_reducible refine x_yes ?_
  | with_reducible refine x_isNG ?_
  | with_reducible refine x_notNG ?_
  | fail "no step")
local macro_rules | `(tactic| walk_at "g2") => `(tactic| first
  | with_reducible refine x_sfld ?_
  | with_reducible refine x_make ?_
  | with_reducible refine x_dnew ?_
  | with_reducible refine x_lcT ?_
  | with_reducible refine x_lcS ?_
  | with_reducible refine x_disp ?_
  | with_reducible refine x_pcons ?_
  | with_reducible refine x_pnil ?_
  | with_reducible refine x_dnewK ?_
  | with_reducible refine x_dput ?_
  | with_reducible refine x_gsub ?_
  | with_reducible refine x_dget2 ?_
  | with_reducible refine x_litems ?_
  | with_reducible refine x_bmX ?_
  | with_reducible refine x_ckw ?_
  | walk_at "g")
local macro_rules | `(tactic| walk_at "go") => `(tactic| repeat' walk_at "g2")

section
variable {P : Program} {w : World} {K : PySem.W.Frag} {mg : Str → Option Value} {base : Heap}
abbrev IsBand : Rp Band := IsT3 IsI IsO (IsL IsRn)
theorem IsBand.mono : Mono IsBand := IsT3.mono IsI.mono IsO.mono (IsL.mono IsRn.mono)
theorem bands_len (one other : List Blk) (k : Bool → Bool → Bool) : ∀ (ss : List Rn) (acc : List Band), (ss.foldl (bandStep one other k) acc).length ≤ acc.length + ss.length
  | [], acc => Nat.le_refl _
  | s :: ss, acc => by
    have h1 := bands_len one other k ss (bandStep one other k acc s)
    have h2 : (bandStep one other k acc s).length ≤ acc.length + 1 := by
      unfold bandStep
      split
      · omega
      · simp
    simp only [List.foldl_cons, List.length_cons]
    omega
theorem cols_len (bs : List Blk) (r : Int) : (columnsAt bs r).length ≤ bs.length := by
  unfold columnsAt
  rw [List.length_map]
  exact List.length_filter_le _ _
def sp_bands_by (K : PySem.W.Frag) : Sp := fun vs H Q _ => ∃ G v u f xs ys g, vs = [v, u, .ref f] ∧ Kp K f g ∧ Ex G H ∧ IsL (IsBlk K) G v xs ∧ IsL (IsBlk K) G u ys ∧ xs.length + ys.length ≤ 1500 ∧ ∀ G1 H1 r, St G H G1 H1 → IsL IsBand G1 r (bandsBy xs ys g) → Q r H1
theorem sc_bands_by : FnScope ["one", "other", "keeps", "found", "first", "last", "runs", "block"] ["one", "other", "keeps"] (defScope s_bands_by) := ⟨rfl, rfl, rfl, by decide +kernel, rfl, by decide +kernel, by decide +kernel⟩
theorem ok_bands_by (T : TX K mg) : FnOk P w K mg base CX0 3 (f_bands_by K) (fdO K (f_bands_by K)) ["one", "other", "keeps"] (sp_bands_by K) := by
  refine (F_bands_by T).ok sc_bands_by (fun vs H Q E h => ?_) (fun cdv A outer s H vs Q E hr h => ?_)
  · obtain ⟨_, _, _, _, _, _, _, rfl, _⟩ := h; rfl
  · obtain ⟨G0, v, u, f, xs, ys, g, rfl, kp, e, hx, hy, hz, k⟩ := h
    have hsz : xs.length + ys.length ≤ sizeLine := Nat.le_trans hz (by decide)
    refine ⟨_, PSs.nox (pss_cons (ps_set (i := 3) sc_bands_by.nd rfl (by first | exact Or.inl rfl | exact Or.inr rfl) (pe_lst pa_nil))
      (pss_cons (ps_for PassesOwn.never rfl (pi_list (pe_call (ok_stretches T) (hr.mono (by decide)) (by rfl) (g_stretches T) (F_stretches T).kp (b_stretches T) .nil pass0 (pa_cons (pe_call (ok_cuts_of T) (hr.mono (by decide)) (by rfl) (g_cuts_of T) (F_cuts_of T).kp (b_cuts_of T) .nil pass0 (pa_cons (pe_lc (own := [("block", 7)]) (g := gName 7) (by rfl) sc_bands_by.nd (pi_list (pe_op op_cat (pv 0) (pv 1))) (blkOk_by (own := [("block", 7)]) (N := ["one", "other", "keeps", "found", "first", "last", "runs", "block"]) (sc := defScope s_bands_by) (by decide +kernel)) (fun _ _ _ _ _ => (pg_name (i := 7) sc_bands_by.nd rfl (by first | exact Or.inl rfl | exact Or.inr rfl))) (fun _ _ _ _ _ => pts_nil) (fun _ _ _ _ _ => (pe_tup (pa_cons (fldK (K := K) (pv 7) (by rfl) (by rfl)) (pa_cons (fldK (K := K) (pv 7) (by rfl) (by rfl)) pa_nil))))) pa_nil)) pa_nil))) (pg_tup (by rfl) (pgs_cons (pg_name (i := 4) sc_bands_by.nd rfl (by first | exact Or.inl rfl | exact Or.inr rfl)) (pgs_cons (pg_name (i := 5) sc_bands_by.nd rfl (by first | exact Or.inl rfl | exact Or.inr rfl)) pgs_nil))) (pss_cons (ps_set (i := 6) sc_bands_by.nd rfl (by first | exact Or.inl rfl | exact Or.inr rfl) (pe_call (ok_runs_by T) (hr.mono (by decide)) (by rfl) (g_runs_by T) (F_runs_by T).kp (b_runs_by T) .nil pass0 (pa_cons (pe_call (ok_columns_at T) (hr.mono (by decide)) (by rfl) (g_columns_at T) (F_columns_at T).kp (b_columns_at T) .nil pass0 (pa_cons (pv 0) (pa_cons (pv 4) pa_nil))) (pa_cons (pe_call (ok_columns_at T) (hr.mono (by decide)) (by rfl) (g_columns_at T) (F_columns_at T).kp (b_columns_at T) .nil pass0 (pa_cons (pv 1) (pa_cons (pv 4) pa_nil))) (pa_cons (pv 2) pa_nil)))))
      (pss_one (ps_if (pt_cmpR (op_neD hr.units) (pv 6) (pe_lst pa_nil) (nomark _)) (pss_one (ps_expr (pe_bm PySem.F.plainAttrs_list PySem.F.slot_list_append PySem.F.type_list_append mt_append (pv 3) (pa_cons (pe_tup (pa_cons (pv 4) (pa_cons (pv 5) (pa_cons (pv 6) pa_nil)))) pa_nil)))) pss_nil))))
      (pss_one (ps_ret (pv 3))))), ?_⟩
    walk_at "go"
    refine lstM e (Nat.zero_le _) fun p0 H1 hp0 s1 m1 => ?_
    walk_at "go"
    refine catL IsBlk.mono hx hy s1.i hsz fun p1 G2 H2 s2 h2 => ?_
    walk_at "go"
    have hl2 : (xs ++ ys).length ≤ 1500 := by rw [List.length_append]; exact hz
    have hl2' : (xs ++ ys).length < sizeLine := Nat.lt_of_le_of_lt hl2 (by decide)
    refine lcG (R := IsBlk K) (S := IsRn) IsBlk.mono IsRn.mono (fun _ => true) (fun b => (b.t, b.b)) s2.i h2 hl2' (fun x w' G3 H3 N0 N1 _ s3 hw n0 n1 => ?_) fun G3 H3 D s3 hD => ?_
    · refine ⟨rfl, ?_⟩
      walk_at "go"
      refine fB_top T hw s3.i ?_
      walk_at "go"
      refine fB_bottom T hw s3.i ?_
      walk_at "go"
      refine tupI s3.i (by show 2 ≤ 1000; decide) fun pt G4 H4 s4 ht => ?_
      exact n1 _ _ _ s4 ⟨pt, _, _, rfl, ht, rfl, rfl⟩ rfl
    · have ef : ((xs ++ ys).filter fun _ => true) = xs ++ ys := List.filter_eq_self.mpr fun _ _ => rfl
      rw [ef] at hD
      walk_at "go"
      have hl3 : ((xs ++ ys).map fun b => (b.t, b.b)).length ≤ 1500 := by rw [List.length_map]; exact hl2
      refine ⟨G3, _, _, rfl, s3.i, hD, hl3, fun G4 H4 r4 s4 h4 => ?_⟩
      walk_at "go"
      have hc3 := cuts_len ((xs ++ ys).map fun b => (b.t, b.b))
      have hb : (cutsOf ((xs ++ ys).map fun b => (b.t, b.b))).length + 1 < scanBound := by
        have : 3001 < scanBound := by decide
        omega
      refine ⟨G4, _, _, rfl, s4.i, h4, hb, fun G5 H5 r5 s5 h5 => ?_⟩
      have st := s2.trans (s3.trans (s4.trans s5))
      have hx5 := IsL.mono IsBlk.mono _ _ _ _ st.g hx
      have hy5 := IsL.mono IsBlk.mono _ _ _ _ st.g hy
      have hqs := str_len (cutsOf ((xs ++ ys).map fun b => (b.t, b.b)))
      refine forG IsRn.mono h5 s5.i (fun i σ' G' H' => ∃ o1 o2 o3 o4 acc, σ' = [some v, some u, some (.ref f), some (.ref p0), o1, o2, o3, o4] ∧ Stm [p0] G5 H5 G' H' ∧ Mu G' H' p0 (.lst acc) ∧ Paired (IsBand G') acc (((stretches (cutsOf ((xs ++ ys).map fun b => (b.t, b.b)))).take i).foldl (bandStep xs ys g) []))
        ⟨none, none, none, none, [], rfl, Stm.refl s5.i, St.mu st m1, .nil⟩ (fun i σ' G' H' _ ⟨_, _, _, _, _, _, s, _⟩ => ⟨s.g, s.i⟩) ?_ ?_
      · rintro i x w' σ1 G6 H6 hi ⟨o1, o2, o3, o4, acc, rfl, sA, mA, pA⟩ hw
        refine x_gtup2 hw sA.i fun w1 w2 hw1 hw2 => ?_
        cases hw1
        cases hw2
        walk_at "go"
        refine ⟨G6, _, xs, x.1, rfl, sA.i, IsL.mono IsBlk.mono _ _ _ _ sA.g hx5, by omega, fun G7 H7 r7 s7 h7 => ?_⟩
        walk_at "go"
        refine ⟨G7, _, ys, x.1, rfl, s7.i, IsL.mono IsBlk.mono _ _ _ _ (sA.trans (St.up s7)).g hy5, by omega, fun G8 H8 r8 s8 h8 => ?_⟩
        walk_at "go"
        have q1 := cols_len xs x.1
        have q2 := cols_len ys x.1
        refine ⟨G8, _, _, f, _, _, g, rfl, kp, s8.i, IsL.mono IsRn.mono _ _ _ _ s8.g h7, h8, by omega, fun G9 H9 r9 s9 h9 => ?_⟩
        walk_at "go"
        refine lstI s9.i (Nat.zero_le _) fun pe G10 H10 s10 g10 => ?_
        have h10 := IsL.mono IsRn.mono _ _ _ _ s10.g h9
        refine neNil h10 s10.i (s10.i _ _ g10) ?_
        have sB := s7.trans (s8.trans (s9.trans s10))
        have mB := St.mu sB mA
        have pB := paired_imp (fun a b q => IsBand.mono _ _ a b sB.g q) pA
        have hm := fold_more (f := bandStep xs ys g) (b := []) hi
        refine ⟨_, rfl, ite_b2 (fun h1 => ?_) (fun h1 => ?_)⟩
        · have h1' : runsBy (columnsAt xs x.1) (columnsAt ys x.1) g ≠ [] := by
            intro c; rw [c] at h1; cases h1
          walk_at "go"
          refine ⟨x_tyL mB, ?_⟩
          walk_at "go"
          refine tupI s10.i (by show 3 ≤ 1000; decide) fun pt G11 H11 s11 ht => ?_
          walk_at "go"
          have hacc : acc.length < sizeLine := by
            have b1 := bands_len xs ys g ((stretches (cutsOf ((xs ++ ys).map fun b => (b.t, b.b)))).take i) []
            have b2 : ((stretches (cutsOf ((xs ++ ys).map fun b => (b.t, b.b)))).take i).length ≤ (stretches (cutsOf ((xs ++ ys).map fun b => (b.t, b.b)))).length := by rw [List.length_take]; exact Nat.min_le_right _ _
            have b3 : 3001 < sizeLine := by decide
            rw [paired_len pA]
            simp only [List.length_nil] at b1
            omega
          refine x_app (s11.mu mB) s11.i hacc fun H12 s12 m12 => ?_
          walk_at "go"
          refine ⟨G11, _, _, _, _, _, rfl, sA.trans ((St.up (sB.trans s11)).trans s12), m12, ?_⟩
          rw [hm]
          unfold bandStep
          rw [if_neg h1']
          exact paired_snoc ⟨pt, _, _, _, rfl, ht, rfl, rfl, IsL.mono IsRn.mono _ _ _ _ s11.g h10⟩ (paired_imp (fun a b q => IsBand.mono _ _ a b s11.g q) pB)
        · have h1' : runsBy (columnsAt xs x.1) (columnsAt ys x.1) g = [] := by
            cases hc : runsBy (columnsAt xs x.1) (columnsAt ys x.1) g with
            | nil => rfl
            | cons a l => rw [hc] at h1; cases h1
          walk_at "go"
          refine ⟨G10, _, _, _, _, _, rfl, sA.trans (St.up sB), mB, ?_⟩
          rw [hm]
          unfold bandStep
          rw [if_pos h1']
          exact pB
      · rintro σ' G' H' ⟨o1, o2, o3, o4, acc, rfl, sA, mA, pA⟩
        rw [List.take_length] at pA
        obtain ⟨s8, g8⟩ := freeze mA sA.i
        walk_at "go"
        refine k _ H' (.ref p0) ?_ ⟨p0, acc, rfl, g8, paired_imp (fun a b q => IsBand.mono _ _ a b s8.g q) pA⟩
        exact Stm.fresh (Stm.refl e) ((St.up (s1.trans st)).trans (sA.trans s8)) fun a ha => by rw [List.mem_singleton.mp ha]; exact hp0
end
end GT

/-! ## K62F -/
set_option Elab.async false
set_option linter.all false
set_option maxRecDepth 100000
namespace GT
open PySem PySem.Spec PyProof.Rows L2 G
local macro_rules | `(tactic| walk_at "ex") => `(tactic| first | exact Ex.refl _ | assumption | exact Stm.g (by assumption) | (refine Ex.trans ?_ (Stm.g (by assumption)); walk_at "ex"))
local macro_rules | `(tactic| walk_at "st") => `(tactic| first | exact Stm.refl (by assumption) | assumption | (refine Stm.trans ?_ (by assumption); walk_at "st"))
local macro_rules | `(tactic| walk_at "i") => `(tactic| first | assumption | exact Stm.i (by assumption))
local macro_rules | `(tactic| walk_at "fact") => `(tactic| first | rfl | exact (rfl : V.non = optV none) | exact (rfl : V.int _ = optV (some _)) | assumption)
local macro_rules | `(tactic| walk_at "g") => `(tactic| first
  | with_reducible refine x_seq ?_
  | with_reducible refine x_next ?_
  | with_reducible refine x_asg ?_
  | with_reducible refine x_ret ?_
  | with_reducible refine x_retN ?_
  | with_reducible refine x_drop ?_
  | with_reducible refine x_ifs ?_
  | ((with_reducible refine' x_var ?hv ?_); (case hv => exact rfl))
  | with_reducible refine x_c ?_
  | with_reducible refine x_op ?_
  | with_reducible refine x_un ?_
  | with_reducible refine x_test ?_
  | with_reducible refine x_B ?_
  | with_reducible refine x_bl ?_
  | with_reducible refine x_and ?_
  | with_reducible refine x_or ?_
  | with_reducible refine x_not ?_
  | with_reducible refine x_andV ?_
  | with_reducible refine x_orV ?_
  | with_reducible refine x_notV ?_
  | with_reducible refine x_ife ?_
  | with_reducible refine x_isN ?_
  | with_reducible refine x_notN ?_
  | with_reducible refine x_nil ?_
  | with_reducible refine x_cons ?_
  | with_reducible refine x_cb ?_
  | with_reducible refine x_call ?_
  | ((with_reducible refine' x_callL ?hv ?_); (case hv => exact rfl))
  | with_reducible refine x_gname ?_
  | with_reducible refine x_I0 ?_
  | ((with_reducible refine' x_eq ?hv ?_); (case hv => exact rfl))
  | ((with_reducible refine' x_ne ?hv ?_); (case hv => exact rfl))
  | with_reducible refine x_tupG ?_
  | with_reducible refine x_lstG ?_
  | with_reducible refine x_lc ?_
  | (with_reducible refine x_U ?_)
  | ((with_reducible refine' ite_T ?hv ?_); (case hv => exact rfl))
  | ((with_reducible refine' ite_F ?hv ?_); (case hv => exact rfl))
  | with_reducible refine x_for ?_
  | with_reducible refine x_iEnum ?_
  | with_reducible refine x_iList ?_
  | with_reducible refine x_iTup ?_
  | with_reducible refine x_gcons ?_
  | with_reducible refine x_gnil ?_
  | with_reducible refine x_bm ?_
  | with_reducible refine x_fldG ?_
  | with_reducible refine x_meth ?_
  | with_reducible refine x_sl ?_
  | with_reducible refine x_nopart ?_
  | with_reducible refine x_part ?_
  | with_reducible refine x_int ?_
  | with_reducible refine x_yes ?_
  | with_reducible refine x_isNG ?_
  | with_reducible refine x_notNG ?_
  | fail "no step")
local macro_rules | `(tactic| walk_at "g2") => `(tactic| first
  | with_reducible refine x_sfld ?_
  | with_reducible refine x_make ?_
  | with_reducible refine x_dnew ?_
  | with_reducible refine x_lcT ?_
  | with_reducible refine x_lcS ?_
  | with_reducible refine x_disp ?_
  | with_reducible refine x_pcons ?_
  | with_reducible refine x_pnil ?_
  | with_reducible refine x_dnewK ?_
  | with_reducible refine x_dput ?_
  | with_reducible refine x_gsub ?_
  | with_reducible refine x_dget2 ?_
  | with_reducible refine x_litems ?_
  | with_reducible refine x_bmX ?_
  | with_reducible refine x_ckw ?_
  | walk_at "g")
local macro_rules | `(tactic| walk_at "go") => `(tactic| repeat' walk_at "g2")

section
variable {P : Program} {w : World} {K : PySem.W.Frag} {mg : Str → Option Value} {base : Heap}
def endB (a : Int) : Option Int → Bool
  | none => true
  | some l => decide (1 ≤ l) && decide (a ≤ l)
def okB (b : Blk) : Bool := decide (1 ≤ b.t) && decide (1 ≤ b.l) && endB b.t b.b && endB b.l b.r
def sp_Block_init (K : PySem.W.Frag) : Sp := fun vs H Q _ => ∃ x dx b, vs = [.ref x, .int b.t, .int b.l, optV b.b, optV b.r] ∧ H x = some (.ins (He.ga K "Block") dx []) ∧ okB b = true ∧ Q .non (upd H x (.ins (He.ga K "Block") dx (blkF b)))
theorem sc_Block___init__ : FnScope ["self", "top", "left", "bottom", "right"] ["self", "top", "left", "bottom", "right"] (defScope s_Block___init__) := ⟨rfl, rfl, rfl, by decide +kernel, rfl, by decide +kernel, by decide +kernel⟩
theorem ok_Block___init__ (T : TX K mg) : FnOk P w K mg base CX0 4 (f_Block___init__ K) (fdO K (f_Block___init__ K)) ["self", "top", "left", "bottom", "right"] (sp_Block_init K) := by
  refine (F_Block___init__ T).ok sc_Block___init__ (fun vs H Q E h => ?_) (fun cdv A outer s H vs Q E hr h => ?_)
  · obtain ⟨_, _, _, rfl, _⟩ := h; rfl
  · obtain ⟨x, dx, b, rfl, hx, ok, k⟩ := h
    have ok' := ok
    unfold okB at ok'
    rw [Bool.and_eq_true, Bool.and_eq_true, Bool.and_eq_true] at ok'
    obtain ⟨⟨⟨o1, o2⟩, o3⟩, o4⟩ := ok'
    refine ⟨_, PSs.nox (pss_cons (ps_if (PW.pt (pw_or (pt_not (pt_val (pe_call (ok_is_count T) (hr.mono (by decide)) (by rfl) (g_is_count T) (F_is_count T).kp (b_is_count T) .nil pass0 (pa_cons (pv 1) pa_nil)))) (pw_or (pt_not (pt_val (pe_call (ok_is_count T) (hr.mono (by decide)) (by rfl) (g_is_count T) (F_is_count T).kp (b_is_count T) .nil pass0 (pa_cons (pv 2) pa_nil)))) (pw_or (pt_not (pt_val (pe_call (ok_is_end T) (hr.mono (by decide)) (by rfl) (g_is_end T) (F_is_end T).kp (b_is_end T) .nil pass0 (pa_cons (pv 1) (pa_cons (pv 3) pa_nil))))) (pw_or1 (pt_not (pt_val (pe_call (ok_is_end T) (hr.mono (by decide)) (by rfl) (g_is_end T) (F_is_end T).kp (b_is_end T) .nil pass0 (pa_cons (pv 2) (pa_cons (pv 4) pa_nil)))))))))) (pss_one ps_never) pss_nil)
      (pss_cons (ps_fld (pv 0) (pv 1) (by rfl))
      (pss_cons (ps_fld (pv 0) (pv 2) (by rfl))
      (pss_cons (ps_fld (pv 0) (pv 3) (by rfl))
      (pss_one (ps_fld (pv 0) (pv 4) (by rfl))))))), ?_⟩
    walk_at "go"
    refine ⟨_, rfl, Knd.int, _, rfl, ?_⟩
    have c1 : countV (.int b.t) = true := o1
    have c2 : countV (.int b.l) = true := o2
    rw [c1]
    walk_at "go"
    refine ⟨_, rfl, Knd.int, _, rfl, ?_⟩
    rw [c2]
    walk_at "go"
    refine ⟨_, _, rfl, _, rfl, ?_⟩
    refine ite_F (congrArg Bool.not o3) ?_
    walk_at "go"
    refine ⟨_, _, rfl, _, rfl, ?_⟩
    refine ite_F (congrArg Bool.not o4) ?_
    walk_at "go"
    refine setF hx (k_Block T) (n_Block_top T) (by decide) ?_
    walk_at "go"
    refine setF upd_same (k_Block T) (n_Block_left T) (Nat.lt_of_le_of_lt (length_putF _ _ _) (by decide)) ?_
    rw [upd_upd]
    walk_at "go"
    refine setF upd_same (k_Block T) (n_Block_bottom T) ?_ ?_
    · refine Nat.lt_of_le_of_lt (length_putF _ _ _) (Nat.lt_of_le_of_lt (Nat.succ_le_succ (length_putF _ _ _)) (by decide))
    rw [upd_upd]
    walk_at "go"
    refine setF upd_same (k_Block T) (n_Block_right T) ?_ ?_
    · refine Nat.lt_of_le_of_lt (length_putF _ _ _) (Nat.lt_of_le_of_lt (Nat.succ_le_succ (length_putF _ _ _)) (Nat.lt_of_le_of_lt (Nat.succ_le_succ (Nat.succ_le_succ (length_putF _ _ _))) (by decide)))
    rw [upd_upd]
    exact k
theorem mkBlk {G H : Hp} {dvs vs : List V} {Q : VK} {E : XK} {b : Blk} (hv : vs ++ dvs = [.int b.t, .int b.l, optV b.b, optV b.r]) (ok : okB b = true) (e : Ex G H) (h : ∀ p G1 H1, St G H G1 H1 → IsBlk K G1 (.ref p) b → Q (.ref p) H1) :
    MakeGo (He.ga K "Block") (sp_Block_init K) dvs vs H Q E := by
  refine makeG e fun x dx H1 hx hd hn s1 m1 => ⟨x, dx, b, by rw [hv], m1.1, ok, rfl, ?_⟩
  obtain ⟨s2, m2⟩ := chgF (o' := .ins (He.ga K "Block") dx (blkF b)) m1 s1.i
  obtain ⟨s3, g3⟩ := freeze m2 s2.i
  exact h x _ _ (Stm.fresh s1 (s2.trans s3) fun a ha => by rw [List.mem_singleton.mp ha]; exact hx) ⟨x, dx, rfl, g3⟩
end
end GT

/-! ## K62G -/
set_option Elab.async false
set_option linter.all false
set_option maxRecDepth 100000
namespace GT
open PySem PySem.Spec PyProof.Rows L2 G
local macro_rules | `(tactic| walk_at "ex") => `(tactic| first | exact Ex.refl _ | assumption | exact Stm.g (by assumption) | (refine Ex.trans ?_ (Stm.g (by assumption)); walk_at "ex"))
local macro_rules | `(tactic| walk_at "st") => `(tactic| first | exact Stm.refl (by assumption) | assumption | (refine Stm.trans ?_ (by assumption); walk_at "st"))
local macro_rules | `(tactic| walk_at "i") => `(tactic| first | assumption | exact Stm.i (by assumption))
local macro_rules | `(tactic| walk_at "fact") => `(tactic| first | rfl | exact (rfl : V.non = optV none) | exact (rfl : V.int _ = optV (some _)) | assumption)
local macro_rules | `(tactic| walk_at "g") => `(tactic| first
  | with_reducible refine x_seq ?_
  | with_reducible refine x_next ?_
  | with_reducible refine x_asg ?_
  | with_reducible refine x_ret ?_
  | with_reducible refine x_retN ?_
  | with_reducible refine x_drop ?_
  | with_reducible refine x_ifs ?_
  | ((with_reducible refine' x_var ?hv ?_); (case hv => exact rfl))
  | with_reducible refine x_c ?_
  | with_reducible refine x_op ?_
  | with_reducible refine x_un ?_
  | with_reducible refine x_test ?_
  | with_reducible refine x_B ?_
  | with_reducible refine x_bl ?_
  | with_reducible refine x_and ?_
  | with_reducible refine x_or ?_
  | with_reducible refine x_not ?_
  | with_reducible refine x_andV ?_
  | with_reducible refine x_orV ?_
  | with_reducible refine x_notV ?_
  | with_reducible refine x_ife ?_
  | with_reducible refine x_isN ?_
  | with_reducible refine x_notN ?_
  | with_reducible refine x_nil ?_
  | with_reducible refine x_cons ?_
  | with_reducible refine x_cb ?_
  | with_reducible refine x_call ?_
  | ((with_reducible refine' x_callL ?hv ?_); (case hv => exact rfl))
  | with_reducible refine x_gname ?_
  | with_reducible refine x_I0 ?_
  | ((with_reducible refine' x_eq ?hv ?_); (case hv => exact rfl))
  | ((with_reducible refine' x_ne ?hv ?_); (case hv => exact rfl))
  | with_reducible refine x_tupG ?_
  | with_reducible refine x_lstG ?_
  | with_reducible refine x_lc ?_
  | (with_reducible refine x_U ?_)
  | ((with_reducible refine' ite_T ?hv ?_); (case hv => exact rfl))
  | ((with_reducible refine' ite_F ?hv ?_); (case hv => exact rfl))
  | with_reducible refine x_for ?_
  | with_reducible refine x_iEnum ?_
  | with_reducible refine x_iList ?_
  | with_reducible refine x_iTup ?_
  | with_reducible refine x_gcons ?_
  | with_reducible refine x_gnil ?_
  | with_reducible refine x_bm ?_
  | with_reducible refine x_fldG ?_
  | with_reducible refine x_meth ?_
  | with_reducible refine x_sl ?_
  | with_reducible refine x_nopart ?_
  | with_reducible refine x_part ?_
  | with_reducible refine x_int ?_
  | with_reducible refine x_yes ?_
  | with_reducible refine x_isNG ?_
  | with_reducible refine x_notNG ?_
  | fail "no step")
local macro_rules | `(tactic| walk_at "g2") => `(tactic| first
  | with_reducible refine x_sfld ?_
  | with_reducible refine x_make ?_
  | with_reducible refine x_dnew ?_
  | with_reducible refine x_lcT ?_
  | with_reducible refine x_lcS ?_
  | with_reducible refine x_disp ?_
  | with_reducible refine x_pcons ?_
  | with_reducible refine x_pnil ?_
  | with_reducible refine x_dnewK ?_
  | with_reducible refine x_dput ?_
  | with_reducible refine x_gsub ?_
  | with_reducible refine x_dget2 ?_
  | with_reducible refine x_litems ?_
  | with_reducible refine x_bmX ?_
  | with_reducible refine x_ckw ?_
  | walk_at "g")
local macro_rules | `(tactic| walk_at "go") => `(tactic| repeat' walk_at "g2")

section
variable {P : Program} {w : World} {K : PySem.W.Frag} {mg : Str → Option Value} {base : Heap}
abbrev bkey (b : Blk) : Int × Int := (b.t, b.l)
theorem sc_first_cell : FnScope ["block"] ["block"] (defScope s_first_cell) := ⟨rfl, rfl, rfl, by decide +kernel, rfl, by decide +kernel, by decide +kernel⟩
variable (key : V → Int × Int) in
theorem ok_first_cell (T : TX K mg) : FnOk P w K mg base CX0 1 (f_first_cell K) (fdO K (f_first_cell K)) ["block"] (SpKey (GoodR (IsBlk K) bkey key) key) := by
  refine (F_first_cell T).ok sc_first_cell (fun vs H Q E h => ?_) (fun cdv A outer s H vs Q E hr h => ?_)
  · obtain ⟨_, rfl, _⟩ := h; rfl
  · obtain ⟨x, rfl, ⟨b, hb, ek⟩, k⟩ := h
    refine ⟨_, PSs.nox (pss_one (ps_ret (pe_tup (pa_cons (fldK (K := K) (pv 0) (by rfl) (by rfl)) (pa_cons (fldK (K := K) (pv 0) (by rfl) (by rfl)) pa_nil))))), ?_⟩
    walk_at "go"
    refine fB_top T hb (Ex.refl H) ?_
    walk_at "go"
    refine fB_left T hb (Ex.refl H) ?_
    walk_at "go"
    refine ⟨by show 2 ≤ sizeLine; decide, fun p hp => ?_⟩
    refine k _ p (Ex.new hp) ?_
    rw [upd_same, ek]
def sp_form_of (K : PySem.W.Frag) : Sp := fun vs H Q _ => ∃ G v bs, vs = [v] ∧ Ex G H ∧ IsL IsBand G v bs ∧ chained bs = true ∧ (formRaw bs).all okB = true ∧ apart (formRaw bs) = true ∧ (formRaw bs).length ≤ 1500 ∧
  ∀ G1 H1 r, St G H G1 H1 → IsL (IsBlk K) G1 r (formOf bs) → Q r H1
theorem sc_form_of : FnScope ["bands", "found", "begun", "behind", "first", "last", "runs", "run", "top"] ["bands"] (defScope s_form_of) := ⟨rfl, rfl, rfl, by decide +kernel, rfl, by decide +kernel, by decide +kernel⟩
theorem ok_form_of (T : TX K mg) : FnOk P w K mg base CX0 6 (f_form_of K) (fdO K (f_form_of K)) ["bands"] (sp_form_of K) := by
  refine (F_form_of T).ok sc_form_of (fun vs H Q E h => ?_) (fun cdv A outer s H vs Q E hr h => ?_)
  · obtain ⟨_, _, _, rfl, _⟩ := h; rfl
  · obtain ⟨G0, v, bs, rfl, e, hx, hch, hok, hap, hlen, k⟩ := h
    refine ⟨_, PSs.nox (pss_cons (ps_set (i := 1) sc_form_of.nd rfl (by first | exact Or.inl rfl | exact Or.inr rfl) (pe_lst pa_nil))
      (pss_cons (ps_set (i := 2) sc_form_of.nd rfl (by first | exact Or.inl rfl | exact Or.inr rfl) pe_dnewX)
      (pss_cons (ps_set (i := 3) sc_form_of.nd rfl (by first | exact Or.inl rfl | exact Or.inr rfl) pe_int)
      (pss_cons (ps_for PassesOwn.never rfl (pi_list (pv 0)) (pg_tup (by rfl) (pgs_cons (pg_name (i := 4) sc_form_of.nd rfl (by first | exact Or.inl rfl | exact Or.inr rfl)) (pgs_cons (pg_name (i := 5) sc_form_of.nd rfl (by first | exact Or.inl rfl | exact Or.inr rfl)) (pgs_cons (pg_name (i := 6) sc_form_of.nd rfl (by first | exact Or.inl rfl | exact Or.inr rfl)) pgs_nil)))) (pss_cons (ps_for PassesOwn.never rfl (pi_list (pe_listItemsX rfl (pv 2) (by rfl) (z_list T) (by decide +kernel))) (pg_tup (by rfl) (pgs_cons (pg_name (i := 7) sc_form_of.nd rfl (by first | exact Or.inl rfl | exact Or.inr rfl)) (pgs_cons (pg_name (i := 8) sc_form_of.nd rfl (by first | exact Or.inl rfl | exact Or.inr rfl)) pgs_nil))) (pss_one (ps_if (PW.pt (pw_or (pt_cmpR (op_notInD (lt65 hr)) (pv 7) (pv 6) (by rfl)) (pw_or1 (pt_cmpR op_ne (pv 4) (pe_op op_add (pv 3) pe_int) (nomark _))))) (pss_cons (ps_expr (pe_bm PySem.F.plainAttrs_list PySem.F.slot_list_append PySem.F.type_list_append mt_append (pv 1) (pa_cons (pe_make (mk_Block T) (ok_Block___init__ T) (hr.mono (by decide)) (by rfl) (g_Block T) (b_Block___init___5 T).choose_spec.2 (b_Block___init___5 T).choose_spec.1 pass0 (pa_cons (pv 8) (pa_cons (pe_ix (ixTK (K := K) (by rfl)) (pv 7) pe_int (fun _ _ => rfl)) (pa_cons (pv 3) (pa_cons (pe_ix (ixTK (K := K) (by rfl)) (pv 7) pe_int (fun _ _ => rfl)) pa_nil))))) pa_nil)))
      (pss_one (ps_expr (pe_bmX PySem.F.slot_dict_pop PySem.F.type_dict_pop (mt_popX hr) (pv 2) (pa_cons (pv 7) pa_nil))))) pss_nil)))
      (pss_cons (ps_for PassesOwn.never rfl (pi_list (pv 6)) (pg_name (i := 7) sc_form_of.nd rfl (by first | exact Or.inl rfl | exact Or.inr rfl)) (pss_one (ps_expr (pe_bmX PySem.F.slot_dict_setdefault PySem.F.type_dict_setdefault (mt_setdX hr) (pv 2) (pa_cons (pv 7) (pa_cons (pv 4) pa_nil))))))
      (pss_one (ps_set (i := 3) sc_form_of.nd rfl (by first | exact Or.inl rfl | exact Or.inr rfl) (pv 5))))))
      (pss_cons (ps_expr (pe_bm PySem.F.plainAttrs_list PySem.F.slot_list_extend PySem.F.type_list_extend mt_extend (pv 1) (pa_cons (pe_lock (pe_lc (own := [("run", 7), ("top", 8)]) (g := gTup K 2 (gCons (gName 7) (gCons (gName 8) gNil))) (by rfl) sc_form_of.nd (pi_itemsX (pv 2)) (blkOk_by (own := [("run", 7), ("top", 8)]) (N := ["bands", "found", "begun", "behind", "first", "last", "runs", "run", "top"]) (sc := defScope s_form_of) (by decide +kernel)) (fun _ _ _ _ _ => (pg_tup (by rfl) (pgs_cons (pg_name (i := 7) sc_form_of.nd rfl (by first | exact Or.inl rfl | exact Or.inr rfl)) (pgs_cons (pg_name (i := 8) sc_form_of.nd rfl (by first | exact Or.inl rfl | exact Or.inr rfl)) pgs_nil)))) (fun _ _ _ _ _ => pts_nil) (fun _ _ _ _ _ => (pe_make (mk_Block T) (ok_Block___init__ T) (hr.mono (by decide)) (by rfl) (g_Block T) (b_Block___init___5 T).choose_spec.2 (b_Block___init___5 T).choose_spec.1 pass0 (pa_cons (pv 8) (pa_cons (pe_ix (ixTK (K := K) (by rfl)) (pv 7) pe_int (fun _ _ => rfl)) (pa_cons (pv 3) (pa_cons (pe_ix (ixTK (K := K) (by rfl)) (pv 7) pe_int (fun _ _ => rfl)) pa_nil)))))))) pa_nil)))
      (pss_one (ps_ret (pe_callBK (cr_sortKE (K := K) (fun key => ok_first_cell key T) (b_first_cell T) (hr.mono (by decide)) (GoodR.mono IsBlk.mono) (by rfl)) (by rfl) (z_sorted T) (by decide +kernel) (pa_cons (pv 1) pa_nil) (pk_cons (pe_glob (v := .ref (He.ga K "first_cell")) (by rfl) (g_first_cell T) rfl) pk_nil))))))))), ?_⟩
    walk_at "go"
    refine lstM e (Nat.zero_le _) fun pf H1 hpf s1 m1 => ?_
    walk_at "go"
    refine dnewX s1.i fun d H2 hd s2 m2 => ?_
    have m1' := s2.mu m1
    have hne : pf ≠ d := fun c => by have q := m1.1; rw [c, hd] at q; cases q
    have m2 : MuX P w G0 H2 d [] := m2
    walk_at "go"
    have hlt : ∀ i, (formSt (bs.take i)).found.length + (formSt (bs.take i)).begun.length ≤ 1500 := fun i => Nat.le_trans (cnt bs i) hlen
    have hbig : 1501 < sizeLine := by decide
    refine forG IsBand.mono hx s2.i (fun i σ' G' H' => ∃ o4 o5 o6 o7 o8 acc, σ' = [some v, some (.ref pf), some (.ref d), some (optV (formSt (bs.take i)).behind), o4, o5, o6, o7, o8] ∧ Stm [pf, d] G0 H2 G' H' ∧ Mu G' H' pf (.lst acc) ∧ Paired (IsBlk K G') acc (formSt (bs.take i)).found ∧ MuX P w G' H' d (formSt (bs.take i)).begun)
      ⟨none, none, none, none, none, [], rfl, Stm.refl s2.i, m1', .nil, m2⟩ (fun i σ' G' H' _ ⟨_, _, _, _, _, _, _, s, _⟩ => ⟨s.g, s.i⟩) ?_ ?_
    · rintro i b w' σ1 G3 H3 hi ⟨o4, o5, o6, o7, o8, acc, rfl, sA, mF, pF, mD⟩ hw
      have hil : i < bs.length := (List.getElem?_eq_some_iff.mp hi).1
      have hmore := formSt_more hi
      have hcnt := hlt (i + 1)
      rw [hmore] at hcnt
      have hcnt0 := hlt i
      have hnd := st_nd (bs.take i)
      obtain ⟨z, hz⟩ := behind_some hch hil
      have hfm : ∀ x ∈ (formStep (formSt (bs.take i)) b).found, okB x = true := fun x hx => by
        rw [← hmore] at hx
        exact List.all_eq_true.mp hok x (found_mem hx)
      rw [hmore]
      revert hcnt hcnt0 hnd hfm pF mD
      generalize formSt (bs.take i) = S at hz ⊢
      obtain ⟨F, B, bh⟩ := S
      cases hz
      intro pF mD hcnt hcnt0 hnd hfm
      refine x_gtup3 hw sA.i fun w1 w2 w3 hw1 hw2 hw3 => ?_
      obtain ⟨f, l, rs⟩ := b
      cases hw1
      cases hw2
      walk_at "go"
      refine itemsL mD sA.i fun G4 H4 p4 s4 h4 => ?_
      walk_at "go"
      have mF4 := s4.mu mF
      have mD4 := mD.st s4
      have pF4 := paired_imp (fun a b q => IsBlk.mono _ _ a b s4.g q) pF
      have h3 := IsL.mono IsRn.mono _ _ _ _ s4.g hw3
      refine forG IsRnI.mono h4 s4.i (fun j σ' G' H' => ∃ o7 o8 acc, σ' = [some v, some (.ref pf), some (.ref d), some (.int z), some (.int f), some (optV l), some w3, o7, o8] ∧ Stm [pf, d] G4 H4 G' H' ∧ Mu G' H' pf (.lst acc) ∧ Paired (IsBlk K G') acc (F ++ ((B.take j).filter (gone (some z) f rs)).map (mkB (some z))) ∧ MuX P w G' H' d ((B.take j).filter (keep (some z) f rs) ++ B.drop j))
        ⟨o7, o8, acc, rfl, Stm.refl s4.i, mF4, by simpa using pF4, by simpa using mD4⟩ (fun i σ' G' H' _ ⟨_, _, _, _, s, _⟩ => ⟨s.g, s.i⟩) ?_ ?_
      · rintro j x w' σ1 G5 H5 hj ⟨o7, o8, acc, rfl, sB, mF5, pF5, mD5⟩ hwx
        refine x_gtup2 hwx sB.i fun wr wt hwr hwt => ?_
        cases hwt
        have h35 := IsL.mono IsRn.mono _ _ _ _ sB.g h3
        have hjl : j < B.length := (List.getElem?_eq_some_iff.mp hj).1
        have hxB : x ∈ B := List.mem_of_getElem? hj
        have hdj : B.drop j = x :: B.drop (j + 1) := by rw [List.drop_eq_getElem_cons hjl, (List.getElem?_eq_some_iff.mp hj).2]
        have hbeg : (List.filter (keep (some z) f rs) (List.take j B) ++ List.drop j B).length ≤ 1500 := by
          have q1 := List.length_filter_le (keep (some z) f rs) (List.take j B)
          have q2 : (List.take j B).length + (List.drop j B).length = B.length := by rw [List.length_take, List.length_drop]; omega
          rw [List.length_append]
          simp only at hcnt0
          omega
        have hg2 : ∀ b, b = gone (some z) f rs x → keep (some z) f rs x = !b := fun b e => by rw [e]; rfl
        refine x_ifs (orP (a := !rs.contains x.1) (b := !decide (f = z + 1)) (fun R h => ?_) (fun R h => ?_) ?_)
        · walk_at "go"
          exact notInRn hwr h35 sB.i ⟨_, rfl, h⟩
        · walk_at "go"
          have e2 : decide (V.int f = V.int (z + 1)) = decide (f = z + 1) := by
            by_cases c : f = z + 1
            · subst c; simp
            · rw [decide_eq_false c, decide_eq_false fun q => c (V.int.inj q)]
          rw [e2]; exact h
        · refine ite_b2 (fun h1 => ?_) (fun h1 => ?_)
          · have hgo : gone (some z) f rs x = true := h1
            have hke : keep (some z) f rs x = false := by unfold keep; rw [hgo]; rfl
            walk_at "go"
            refine ⟨x_tyL mF5, ?_⟩
            walk_at "go"
            refine x_ixT0 hwr sB.i fun wa hwa => ?_
            cases hwa
            walk_at "go"
            refine x_ixT1 hwr sB.i fun wb hwb => ?_
            cases hwb
            walk_at "go"
            have hmem : mkB (some z) x ∈ (formStep { found := F, begun := B, behind := some z } (f, l, rs)).found := List.mem_append_right _ (List.mem_map_of_mem (List.mem_filter.mpr ⟨hxB, hgo⟩))
            refine mkBlk (b := mkB (some z) x) rfl (hfm _ hmem) sB.i fun pb G6 H6 s6 hb6 => ?_
            walk_at "go"
            have hacc : acc.length < sizeLine := by
              rw [paired_len pF5, List.length_append, List.length_map]
              have q1 := List.length_filter_le (gone (some z) f rs) (List.take j B)
              have q2 : (List.take j B).length ≤ B.length := by rw [List.length_take]; exact Nat.min_le_right _ _
              simp only at hcnt0
              omega
            refine x_app (s6.mu mF5) s6.i hacc fun H7 s7 m7 => ?_
            have mD7 := (mD5.st s6).to s7 (fun q => hne (List.mem_singleton.mp q).symm)
            walk_at "go"
            refine ⟨tyX mD7, ?_⟩
            walk_at "go"
            have hin : ((List.filter (keep (some z) f rs) (List.take j B) ++ List.drop j B).any fun y => decide (y.1 = x.1)) = true := by
              rw [hdj]
              exact List.any_eq_true.mpr ⟨x, List.mem_append_right _ (List.mem_cons_self ..), decide_eq_true rfl⟩
            refine popG mD7 s7.i (IsRn.mono _ _ _ _ s6.g hwr) hin fun H8 u s8 m8 => ?_
            walk_at "go"
            rw [drop_mid hnd hj] at m8
            refine ⟨G6, _, _, _, rfl, (sB.trans (St.up s6)).trans ((s7.sub (by simp)).trans (s8.sub (by simp))), s8.m _ _ (fun q => hne (List.mem_singleton.mp q)) m7, ?_, ?_⟩
            · rw [gone_take hj, if_pos hgo, List.map_append, ← List.append_assoc]
              exact paired_snoc hb6 (paired_imp (fun a b q => IsBlk.mono _ _ a b s6.g q) pF5)
            · rw [gone_take hj, if_neg (by rw [hke]; exact Bool.false_ne_true), List.append_nil]
              exact m8
          · have hgo : gone (some z) f rs x = false := h1
            have hke : keep (some z) f rs x = true := by unfold keep; rw [hgo]; rfl
            walk_at "go"
            refine ⟨G5, _, _, _, rfl, sB, mF5, ?_, ?_⟩
            · rw [gone_take hj, if_neg (by rw [hgo]; exact Bool.false_ne_true), List.append_nil]
              exact pF5
            · rw [gone_take hj, if_pos hke, List.append_assoc, List.singleton_append, ← hdj]
              exact mD5
      · rintro σ' G5 H5 ⟨o7, o8, acc, rfl, sB, mF5, pF5, mD5⟩
        simp only [List.take_length, List.drop_length, List.append_nil] at pF5 mD5
        walk_at "go"
        have h35 := IsL.mono IsRn.mono _ _ _ _ sB.g h3
        refine forG IsRn.mono h35 sB.i (fun j σ' G' H' => ∃ o7, σ' = [some v, some (.ref pf), some (.ref d), some (.int z), some (.int f), some (optV l), some w3, o7, o8] ∧ Stm [pf, d] G5 H5 G' H' ∧ Mu G' H' pf (.lst acc) ∧ MuX P w G' H' d ((rs.take j).foldl (setd f) (B.filter (keep (some z) f rs))))
          ⟨o7, rfl, Stm.refl sB.i, mF5, mD5⟩ (fun i σ' G' H' _ ⟨_, _, s, _⟩ => ⟨s.g, s.i⟩) ?_ ?_
        · rintro j x w' σ1 G6 H6 hj ⟨o7, rfl, sC, mF6, mD6⟩ hwx
          have hjm := fold_more (f := setd f) (b := B.filter (keep (some z) f rs)) hj
          walk_at "go"
          refine ⟨tyX mD6, ?_⟩
          walk_at "go"
          have hbl : ((rs.take j).foldl (setd f) (B.filter (keep (some z) f rs))).length < sizeLine := by
            have q1 := setds_part f rs (B.filter (keep (some z) f rs)) j
            have q2 : (rs.foldl (setd f) (B.filter (keep (some z) f rs))).length ≤ 1500 := Nat.le_trans (Nat.le_add_left _ _) hcnt
            omega
          refine setdG mD6 sC.i hwx hbl fun H7 u s7 m7 => ?_
          walk_at "go"
          refine ⟨G6, _, rfl, sC.trans (s7.sub (by simp)), s7.m _ _ (fun q => hne (List.mem_singleton.mp q)) mF6, ?_⟩
          rw [hjm]; exact m7
        · rintro σ' G6 H6 ⟨o7, rfl, sC, mF6, mD6⟩
          rw [List.take_length] at mD6
          walk_at "go"
          exact ⟨G6, _, _, _, _, _, acc, rfl, (sA.trans (St.up s4)).trans (sB.trans sC), mF6, paired_imp (fun a b q => IsBlk.mono _ _ a b sC.g q) pF5, mD6⟩
    · rintro σ' G3 H3 ⟨o4, o5, o6, o7, o8, acc, rfl, sA, mF, pF, mD⟩
      rw [List.take_length] at pF mD ⊢
      have hcnt0 := hlt bs.length
      rw [List.take_length] at hcnt0
      walk_at "go"
      refine ⟨x_tyL mF, ?_⟩
      walk_at "go"
      refine lcX (S := IsBlk K) IsBlk.mono (fun H R h => ⟨_, rfl, h⟩) mD sA.i (by omega) (mkB (formSt bs).behind) (fun y Tp G4 H4 N0 N1 hy eg ei hT n1 => ?_) fun G4 H4 D s4 h4 => ?_
      · refine x_gtup2 hT ei fun wr wt hwr hwt => ?_
        cases hwt
        refine ⟨rfl, ?_⟩
        walk_at "go"
        refine x_ixT0 hwr ei fun wa hwa => ?_
        cases hwa
        walk_at "go"
        refine x_ixT1 hwr ei fun wb hwb => ?_
        cases hwb
        walk_at "go"
        have hmem : mkB (formSt bs).behind y ∈ formRaw bs := List.mem_append_right _ (List.mem_map_of_mem hy)
        exact mkBlk (b := mkB (formSt bs).behind y) rfl (List.all_eq_true.mp hok _ hmem) ei fun pb G6 H6 s6 hb6 => n1 _ _ _ s6 hb6
      · walk_at "go"
        have hl1 : acc.length + ((formSt bs).begun.map (mkB (formSt bs).behind)).length ≤ sizeLine := by
          rw [paired_len pF, List.length_map]; omega
        refine extL (s4.mu mF) h4 s4.i hl1 fun H5 ws s5 m5 p5 => ?_
        obtain ⟨s6, g6⟩ := freeze m5 s5.i
        walk_at "go"
        have hL : IsL (IsBlk K) (upd G4 pf (.lst (acc ++ ws))) (.ref pf) (formRaw bs) := ⟨pf, _, rfl, g6, paired_imp (fun a b q => IsBlk.mono _ _ a b s6.g q) (paired_app (paired_imp (fun a b q => IsBlk.mono _ _ a b s4.g q) pF) p5)⟩
        have s16 : St G0 H (upd G4 pf (.lst (acc ++ ws))) H5 := by
          refine Stm.fresh (Stm.refl e) (A := [pf, d]) (((St.up (s1.trans s2)).trans sA).trans ((St.up s4).trans ((s5.trans s6).sub (by simp)))) fun a ha => ?_
          rcases List.mem_cons.mp ha with rfl | ha
          · exact hpf
          · rw [List.mem_singleton.mp ha]
            cases hq : H d with
            | none => rfl
            | some o => exact absurd (s1.m d o (fun z => nomatch z) ⟨hq, m2.no⟩).1 (by rw [hd]; exact fun z => nomatch z)
        refine sortBlk hL hap s16.i fun G7 H7 p7 s7 h7 => ?_
        exact k _ _ _ (s16.trans s7) h7
end
end GT

/-! ## K62H -/
set_option Elab.async false
set_option linter.all false
set_option maxRecDepth 100000
namespace GT
open PySem PySem.Spec PyProof.Rows L2 G
local macro_rules | `(tactic| walk_at "ex") => `(tactic| first | exact Ex.refl _ | assumption | exact Stm.g (by assumption) | (refine Ex.trans ?_ (Stm.g (by assumption)); walk_at "ex"))
local macro_rules | `(tactic| walk_at "st") => `(tactic| first | exact Stm.refl (by assumption) | assumption | (refine Stm.trans ?_ (by assumption); walk_at "st"))
local macro_rules | `(tactic| walk_at "i") => `(tactic| first | assumption | exact Stm.i (by assumption))
local macro_rules | `(tactic| walk_at "fact") => `(tactic| first | rfl | exact (rfl : V.non = optV none) | exact (rfl : V.int _ = optV (some _)) | assumption)
local macro_rules | `(tactic| walk_at "g") => `(tactic| first
  | with_reducible refine x_seq ?_
  | with_reducible refine x_next ?_
  | with_reducible refine x_asg ?_
  | with_reducible refine x_ret ?_
  | with_reducible refine x_retN ?_
  | with_reducible refine x_drop ?_
  | with_reducible refine x_ifs ?_
  | ((with_reducible refine' x_var ?hv ?_); (case hv => exact rfl))
  | with_reducible refine x_c ?_
  | with_reducible refine x_op ?_
  | with_reducible refine x_un ?_
  | with_reducible refine x_test ?_
  | with_reducible refine x_B ?_
  | with_reducible refine x_bl ?_
  | with_reducible refine x_and ?_
  | with_reducible refine x_or ?_
  | with_reducible refine x_not ?_
  | with_reducible refine x_andV ?_
  | with_reducible refine x_orV ?_
  | with_reducible refine x_notV ?_
  | with_reducible refine x_ife ?_
  | with_reducible refine x_isN ?_
  | with_reducible refine x_notN ?_
  | with_reducible refine x_nil ?_
  | with_reducible refine x_cons ?_
  | with_reducible refine x_cb ?_
  | with_reducible refine x_call ?_
  | ((with_reducible refine' x_callL ?hv ?_); (case hv => exact rfl))
  | with_reducible refine x_gname ?_
  | with_reducible refine x_I0 ?_
  | ((with_reducible refine' x_eq ?hv ?_); (case hv => exact rfl))
  | ((with_reducible refine' x_ne ?hv ?_); (case hv => exact rfl))
  | with_reducible refine x_tupG ?_
  | with_reducible refine x_lstG ?_
  | with_reducible refine x_lc ?_
  | (with_reducible refine x_U ?_)
  | ((with_reducible refine' ite_T ?hv ?_); (case hv => exact rfl))
  | ((with_reducible refine' ite_F ?hv ?_); (case hv => exact rfl))
  | with_reducible refine x_for ?_
  | with_reducible refine x_iEnum ?_
  | with_reducible refine x_iList ?_
  | with_reducible refine x_iTup ?_
  | with_reducible refine x_gcons ?_
  | with_reducible refine x_gnil ?_
  | with_reducible refine x_bm ?_
  | with_reducible refine x_fldG ?_
  | with_reducible refine x_meth ?_
  | with_reducible refine x_sl ?_
  | with_reducible refine x_nopart ?_
  | with_reducible refine x_part ?_
  | with_reducible refine x_int ?_
  | with_reducible refine x_yes ?_
  | with_reducible refine x_isNG ?_
  | with_reducible refine x_notNG ?_
  | fail "no step")
local macro_rules | `(tactic| walk_at "g2") => `(tactic| first
  | with_reducible refine x_sfld ?_
  | with_reducible refine x_make ?_
  | with_reducible refine x_dnew ?_
  | with_reducible refine x_lcT ?_
  | with_reducible refine x_lcS ?_
  | with_reducible refine x_disp ?_
  | with_reducible refine x_pcons ?_
  | with_reducible refine x_pnil ?_
  | with_reducible refine x_dnewK ?_
  | with_reducible refine x_dput ?_
  | with_reducible refine x_gsub ?_
  | with_reducible refine x_dget2 ?_
  | with_reducible refine x_litems ?_
  | with_reducible refine x_bmX ?_
  | with_reducible refine x_ckw ?_
  | walk_at "g")
local macro_rules | `(tactic| walk_at "go") => `(tactic| repeat' walk_at "g2")

section
variable {P : Program} {w : World} {K : PySem.W.Frag} {mg : Str → Option Value} {base : Heap}
theorem IsBlk.ty {G H : Hp} {v : V} {b : Blk} (T : TX K mg) (h : IsBlk K G v b) (e : Ex G H) : TyX K H v (.ref (He.ga K "Block")) := by
  obtain ⟨p, dx, rfl, hp⟩ := h
  exact t_Block T (e _ _ hp)
theorem IsAr.ty {G H : Hp} {v : V} {b : List Blk} (T : TX K mg) (h : IsAr K G v b) (e : Ex G H) : TyX K H v (.ref (He.ga K "Area")) := by
  obtain ⟨p, dx, q, rfl, hp, _⟩ := h
  exact t_Area T (e _ _ hp)
def sp_checked_blocks (K : PySem.W.Frag) : Sp := fun vs H Q _ => ∃ G v xs, vs = [v] ∧ Ex G H ∧ IsL (IsBlk K) G v xs ∧ xs.length ≤ 1500 ∧ ∀ G1 H1, St G H G1 H1 → Q .non H1
theorem sc_checked_blocks : FnScope ["blocks", "block"] ["blocks"] (defScope s_checked_blocks) := ⟨rfl, rfl, rfl, by decide +kernel, rfl, by decide +kernel, by decide +kernel⟩
theorem ok_checked_blocks (T : TX K mg) : FnOk P w K mg base CX0 1 (f_checked_blocks K) (fdO K (f_checked_blocks K)) ["blocks"] (sp_checked_blocks K) := by
  refine (F_checked_blocks T).ok sc_checked_blocks (fun vs H Q E h => ?_) (fun cdv A outer s H vs Q E hr h => ?_)
  · obtain ⟨_, _, _, rfl, _⟩ := h; rfl
  · obtain ⟨G0, v, xs, rfl, e, hx, hz, k⟩ := h
    have hz' : xs.length < sizeLine := Nat.lt_of_le_of_lt hz (by decide)
    refine ⟨_, PSs.nox (pss_one (ps_if (PW.pt (pw_or (pt_not (pt_val (pe_callB (isiK (K := K) (by rfl)) (by rfl) (z_isinstance T) PyProof.Rows.boot_isinstance (pa_cons (pv 0) (pa_cons (pe_bltn (v := .ty "list") (by rfl) (z_list T) (by decide +kernel) rfl) pa_nil))))) (pw_or1 (pt_not (pt_val (pe_callB (cr_all rfl) (by rfl) (z_all T) PyProof.Rows.boot_all (pa_cons (pe_lc (own := [("block", 1)]) (g := gName 1) (by rfl) sc_checked_blocks.nd (pi_list (pv 0)) (blkOk_by (own := [("block", 1)]) (N := ["blocks", "block"]) (sc := defScope s_checked_blocks) (by decide +kernel)) (fun _ _ _ _ _ => (pg_name (i := 1) sc_checked_blocks.nd rfl (by first | exact Or.inl rfl | exact Or.inr rfl))) (fun _ _ _ _ _ => pts_nil) (fun _ _ _ _ _ => (pe_callB (isiK (K := K) (by rfl)) (by rfl) (z_isinstance T) PyProof.Rows.boot_isinstance (pa_cons (pv 1) (pa_cons (pe_glob (v := .ref (He.ga K "Block")) (by rfl) (g_Block T) rfl) pa_nil))))) pa_nil))))))) (pss_one ps_never) pss_nil)), ?_⟩
    walk_at "go"
    refine isiG (.ty "list") (hx.ty e) (kit_ty (b := "list") (r := true) (by decide +kernel)) ?_
    walk_at "go"
    refine lcG (R := IsBlk K) (S := IsB) IsBlk.mono IsB.mono (fun _ => true) (fun _ => true) e hx hz' (fun x w' G1 H1 N0 N1 _ s1 hw n0 n1 => ?_) fun G1 H1 D s1 hD => ?_
    · refine ⟨rfl, ?_⟩
      walk_at "go"
      refine isiG (.own _) (IsBlk.ty T hw s1.i) (i_Block_Block T) ?_
      exact n1 _ _ _ (Stm.refl s1.i) rfl rfl
    · walk_at "go"
      refine allL hD s1.i ?_
      have e1 : (((xs.filter fun _ => true).map fun _ => true).all id) = true := by simp
      rw [e1]
      refine ⟨_, rfl, ?_⟩
      walk_at "go"
      exact k _ _ s1
/-- a thing of another kind is refused -/
def spChk (K : PySem.W.Frag) (C X : Str) : Sp := fun vs H Q E => ∃ x t b, vs = [x] ∧ TyX K H x t ∧ PySem.W.kitOne K t (.ref (He.ga K C)) = some b ∧ (b = true → Q .non H) ∧ (b = false → E (.ref (He.ga K X)) none H)
theorem sc_checked_area : FnScope ["thing"] ["thing"] (defScope s_checked_area) := ⟨rfl, rfl, rfl, by decide +kernel, rfl, by decide +kernel, by decide +kernel⟩
theorem ok_checked_area (T : TX K mg) : FnOk P w K mg base (L2N.CX P w) 1 (f_checked_area K) (fdO K (f_checked_area K)) ["thing"] (spChk K "Area" "NoArea") := by
  refine (F_checked_area T).ok sc_checked_area (fun vs H Q E h => ?_) (fun cdv A outer s H vs Q E hr h => ?_)
  · obtain ⟨_, _, _, rfl, _⟩ := h; rfl
  · obtain ⟨x, t, b, rfl, ty, kb, h1, h2⟩ := h
    refine ⟨_, (pss_one (ps_if (pt_not (pt_val (pe_callB (isiK (K := K) (by rfl)) (by rfl) (z_isinstance T) PyProof.Rows.boot_isinstance (pa_cons (pv 0) (pa_cons (pe_glob (v := .ref (He.ga K "Area")) (by rfl) (g_Area T) rfl) pa_nil))))) (pss_one (L2N.ps_raise rfl (L2N.takes_of rfl rfl rfl rfl) (L2N.pmk_own PySem.F.excBase_ValueError (e_NoArea T).1 (g_NoArea T) (e_NoArea T).2.1 (raises_own (e_NoArea T).2.2.1 (e_NoArea T).2.2.2) (by rfl)))) pss_nil)), ?_⟩
    walk_at "go"
    refine isiG (.own _) ty kb ?_
    refine ⟨_, rfl, ?_⟩
    cases b with
    | true => exact h1 rfl
    | false => exact h2 rfl
theorem sc_check_sheet : FnScope ["thing"] ["thing"] (defScope s_check_sheet) := ⟨rfl, rfl, rfl, by decide +kernel, rfl, by decide +kernel, by decide +kernel⟩
theorem ok_check_sheet (T : TX K mg) : FnOk P w K mg base (L2N.CX P w) 1 (f_check_sheet K) (fdO K (f_check_sheet K)) ["thing"] (spChk K "Sheet" "NoSheet") := by
  refine (F_check_sheet T).ok sc_check_sheet (fun vs H Q E h => ?_) (fun cdv A outer s H vs Q E hr h => ?_)
  · obtain ⟨_, _, _, rfl, _⟩ := h; rfl
  · obtain ⟨x, t, b, rfl, ty, kb, h1, h2⟩ := h
    refine ⟨_, (pss_one (ps_if (pt_not (pt_val (pe_callB (isiK (K := K) (by rfl)) (by rfl) (z_isinstance T) PyProof.Rows.boot_isinstance (pa_cons (pv 0) (pa_cons (pe_glob (v := .ref (He.ga K "Sheet")) (by rfl) (g_Sheet T) rfl) pa_nil))))) (pss_one (L2N.ps_raise rfl (L2N.takes_of rfl rfl rfl rfl) (L2N.pmk_own PySem.F.excBase_ValueError (e_NoSheet T).1 (g_NoSheet T) (e_NoSheet T).2.1 (raises_own (e_NoSheet T).2.2.1 (e_NoSheet T).2.2.2) (by rfl)))) pss_nil)), ?_⟩
    walk_at "go"
    refine isiG (.own _) ty kb ?_
    refine ⟨_, rfl, ?_⟩
    cases b with
    | true => exact h1 rfl
    | false => exact h2 rfl
def okF (bs : List Band) : Bool := chained bs && (formRaw bs).all okB && apart (formRaw bs) && decide ((formRaw bs).length ≤ 1500)
theorem okF_of {bs : List Band} (h : okF bs = true) : chained bs = true ∧ (formRaw bs).all okB = true ∧ apart (formRaw bs) = true ∧ (formRaw bs).length ≤ 1500 := by
  unfold okF at h
  rw [Bool.and_eq_true, Bool.and_eq_true, Bool.and_eq_true] at h
  exact ⟨h.1.1.1, h.1.1.2, h.1.2, of_decide_eq_true h.2⟩
def kOr (a b : Bool) : Bool := a || b
def norm (xs : List Blk) : List Blk := formOf (bandsBy xs [] fun a b => a || b)
def okN (xs : List Blk) : Bool := decide (xs.length ≤ 1500) && okF (bandsBy xs [] fun a b => a || b)
def sp_Area_init (K : PySem.W.Frag) : Sp := fun vs H Q _ => ∃ G p dx v xs, vs = [.ref p, v] ∧ Ex G H ∧ Mu G H p (.ins (He.ga K "Area") dx []) ∧ ((v = .non ∧ xs = []) ∨ IsL (IsBlk K) G v xs) ∧ okN xs = true ∧
  ∀ G1 H1 q, Stm [p] G H G1 H1 → Mu G1 H1 p (.ins (He.ga K "Area") dx (arF q)) → IsL (IsBlk K) G1 (.ref q) (norm xs) → Q .non H1
theorem sc_Area___init__ : FnScope ["self", "blocks"] ["self", "blocks"] (defScope s_Area___init__) := ⟨rfl, rfl, rfl, by decide +kernel, rfl, by decide +kernel, by decide +kernel⟩
theorem ok_Area___init__ (T : TX K mg) : FnOk P w K mg base CX0 7 (f_Area___init__ K) (fdO K (f_Area___init__ K)) ["self", "blocks"] (sp_Area_init K) := by
  refine (F_Area___init__ T).ok sc_Area___init__ (fun vs H Q E h => ?_) (fun cdv A outer s H vs Q E hr h => ?_)
  · obtain ⟨_, _, _, _, _, rfl, _⟩ := h; rfl
  · obtain ⟨G0, p, dx, v, xs, rfl, e, mp, hv, ok, k⟩ := h
    unfold okN at ok
    rw [Bool.and_eq_true] at ok
    have hz := of_decide_eq_true ok.1
    obtain ⟨o1, o2, o3, o4⟩ := okF_of ok.2
    refine ⟨_, PSs.nox (pss_cons (ps_if (pt_cmpR op_isNG (pv 1) pe_non (nomark _)) (pss_one (ps_set (i := 1) sc_Area___init__.nd rfl (by first | exact Or.inl rfl | exact Or.inr rfl) (pe_lst pa_nil))) pss_nil)
      (pss_cons (ps_expr (pe_call (ok_checked_blocks T) (hr.mono (by decide)) (by rfl) (g_checked_blocks T) (F_checked_blocks T).kp (b_checked_blocks T) .nil pass0 (pa_cons (pv 1) pa_nil)))
      (pss_one (ps_fld (pv 0) (pe_call (ok_form_of T) (hr.mono (by decide)) (by rfl) (g_form_of T) (F_form_of T).kp (b_form_of T) .nil pass0 (pa_cons (pe_call (ok_bands_by T) (hr.mono (by decide)) (by rfl) (g_bands_by T) (F_bands_by T).kp (b_bands_by T) .nil pass0 (pa_cons (pv 1) (pa_cons (pe_lst pa_nil) (pa_cons (pe_glob (v := .ref (He.ga K "either")) (by rfl) (g_either T) rfl) pa_nil)))) pa_nil)) (by rfl))))), ?_⟩
    have tail : ∀ v2 G1 H1, Stm [p] G0 H G1 H1 → Mu G1 H1 p (.ins (He.ga K "Area") dx []) → IsL (IsBlk K) G1 v2 xs → tSeq (tDrop (tCall (sp_checked_blocks K) [] E0 (tCons (tVar 1) tNil))) (sFld K (tVar 0) (tCall (sp_form_of K) [] E0 (tCons (tCall (sp_bands_by K) [] E0 (tCons (tVar 1) (tCons (tLst tNil) (tCons (tC (V.ref (He.ga K (Str.ofString "either")))) tNil)))) tNil)) (Str.ofString "form")) { nx := fun x H' => Q V.non H', rt := Q } [some (.ref p), some v2] H1 := by
      intro v2 G1 H1 s1 m1 h1
      walk_at "go"
      refine ⟨G1, _, xs, rfl, s1.i, h1, hz, fun G2 H2 s2 => ?_⟩
      walk_at "go"
      have h2 := IsL.mono IsBlk.mono _ _ _ _ s2.g h1
      refine lstI s2.i (Nat.zero_le _) fun p0 G3 H3 s3 g3 => ?_
      walk_at "go"
      have h3 := IsL.mono IsBlk.mono _ _ _ _ s3.g h2
      refine ⟨G3, _, _, _, xs, [], _, rfl, .either, s3.i, h3, ⟨p0, [], rfl, g3, .nil⟩, hz, fun G4 H4 r4 s4 h4 => ?_⟩
      walk_at "go"
      refine ⟨G4, _, _, rfl, s4.i, h4, o1, o2, o3, o4, fun G5 H5 r5 s5 h5 => ?_⟩
      walk_at "go"
      have m5 := (((s2.trans s3).trans s4).trans s5).mu m1
      have h5' := h5
      obtain ⟨q, ws, rfl, _, _⟩ := h5'
      refine setF m5.1 (k_Area T) (n_Area_form T) (by decide) ?_
      obtain ⟨s6, m6⟩ := chgF (o' := .ins (He.ga K "Area") dx (arF q)) m5 s5.i
      exact k _ _ q ((s1.trans (St.up (((s2.trans s3).trans s4).trans s5))).trans s6) m6 h5
    walk_at "go"
    rcases hv with ⟨rfl, rfl⟩ | hv
    · walk_at "go"
      refine lstI e (Nat.zero_le _) fun p0 G1 H1 s1 g1 => ?_
      exact tail _ G1 H1 (St.up s1) (s1.mu mp) ⟨p0, [], rfl, g1, .nil⟩
    · have hv' := hv
      obtain ⟨q, ws, rfl, _, _⟩ := hv'
      exact tail _ G0 H (Stm.refl e) mp hv
theorem mkArea {G H : Hp} {dvs vs : List V} {Q : VK} {E : XK} {v : V} {xs : List Blk} (hv : vs ++ dvs = [v]) (hx : (v = .non ∧ xs = []) ∨ IsL (IsBlk K) G v xs) (ok : okN xs = true) (e : Ex G H) (h : ∀ p G1 H1, St G H G1 H1 → IsAr K G1 (.ref p) (norm xs) → Q (.ref p) H1) :
    MakeGo (He.ga K "Area") (sp_Area_init K) dvs vs H Q E := by
  refine makeG e fun x dx H1 hx1 hd hn s1 m1 => ⟨G, x, dx, v, xs, by rw [hv], s1.i, m1, hx, ok, fun G2 H2 q s2 m2 h2 => ⟨rfl, ?_⟩⟩
  obtain ⟨s3, g3⟩ := freeze m2 s2.i
  refine h x _ _ (Stm.fresh s1 (s2.trans s3) fun a ha => by rw [List.mem_singleton.mp ha]; exact hx1) ⟨x, dx, q, rfl, g3, IsL.mono IsBlk.mono _ _ _ _ s3.g h2⟩
end
end GT

/-! ## K62I -/
set_option Elab.async false
set_option linter.all false
set_option maxRecDepth 100000
namespace GT
open PySem PySem.Spec PyProof.Rows L2 G
local macro_rules | `(tactic| walk_at "ex") => `(tactic| first | exact Ex.refl _ | assumption | exact Stm.g (by assumption) | (refine Ex.trans ?_ (Stm.g (by assumption)); walk_at "ex"))
local macro_rules | `(tactic| walk_at "st") => `(tactic| first | exact Stm.refl (by assumption) | assumption | (refine Stm.trans ?_ (by assumption); walk_at "st"))
local macro_rules | `(tactic| walk_at "i") => `(tactic| first | assumption | exact Stm.i (by assumption))
local macro_rules | `(tactic| walk_at "fact") => `(tactic| first | rfl | exact (rfl : V.non = optV none) | exact (rfl : V.int _ = optV (some _)) | assumption)
local macro_rules | `(tactic| walk_at "g") => `(tactic| first
  | with_reducible refine x_seq ?_
  | with_reducible refine x_next ?_
  | with_reducible refine x_asg ?_
  | with_reducible refine x_ret ?_
  | with_reducible refine x_retN ?_
  | with_reducible refine x_drop ?_
  | with_reducible refine x_ifs ?_
  | ((with_reducible refine' x_var ?hv ?_); (case hv => exact rfl))
  | with_reducible refine x_c ?_
  | with_reducible refine x_op ?_
  | with_reducible refine x_un ?_
  | with_reducible refine x_test ?_
  | with_reducible refine x_B ?_
  | with_reducible refine x_bl ?_
  | with_reducible refine x_and ?_
  | with_reducible refine x_or ?_
  | with_reducible refine x_not ?_
  | with_reducible refine x_andV ?_
  | with_reducible refine x_orV ?_
  | with_reducible refine x_notV ?_
  | with_reducible refine x_ife ?_
  | with_reducible refine x_isN ?_
  | with_reducible refine x_notN ?_
  | with_reducible refine x_nil ?_
  | with_reducible refine x_cons ?_
  | with_reducible refine x_cb ?_
  | with_reducible refine x_call ?_
  | ((with_reducible refine' x_callL ?hv ?_); (case hv => exact rfl))
  | with_reducible refine x_gname ?_
  | with_reducible refine x_I0 ?_
  | ((with_reducible refine' x_eq ?hv ?_); (case hv => exact rfl))
  | ((with_reducible refine' x_ne ?hv ?_); (case hv => exact rfl))
  | with_reducible refine x_tupG ?_
  | with_reducible refine x_lstG ?_
  | with_reducible refine x_lc ?_
  | (with_reducible refine x_U ?_)
  | ((with_reducible refine' ite_T ?hv ?_); (case hv => exact rfl))
  | ((with_reducible refine' ite_F ?hv ?_); (case hv => exact rfl))
  | with_reducible refine x_for ?_
  | with_reducible refine x_iEnum ?_
  | with_reducible refine x_iList ?_
  | with_reducible refine x_iTup ?_
  | with_reducible refine x_gcons ?_
  | with_reducible refine x_gnil ?_
  | with_reducible refine x_bm ?_
  | with_reducible refine x_fldG ?_
  | with_reducible refine x_meth ?_
  | with_reducible refine x_sl ?_
  | with_reducible refine x_nopart ?_
  | with_reducible refine x_part ?_
  | with_reducible refine x_int ?_
  | with_reducible refine x_yes ?_
  | with_reducible refine x_isNG ?_
  | with_reducible refine x_notNG ?_
  | fail "no step")
local macro_rules | `(tactic| walk_at "g2") => `(tactic| first
  | with_reducible refine x_sfld ?_
  | with_reducible refine x_make ?_
  | with_reducible refine x_dnew ?_
  | with_reducible refine x_lcT ?_
  | with_reducible refine x_lcS ?_
  | with_reducible refine x_disp ?_
  | with_reducible refine x_pcons ?_
  | with_reducible refine x_pnil ?_
  | with_reducible refine x_dnewK ?_
  | with_reducible refine x_dput ?_
  | with_reducible refine x_gsub ?_
  | with_reducible refine x_dget2 ?_
  | with_reducible refine x_litems ?_
  | with_reducible refine x_bmX ?_
  | with_reducible refine x_ckw ?_
  | walk_at "g")
local macro_rules | `(tactic| walk_at "go") => `(tactic| repeat' walk_at "g2")

section
variable {P : Program} {w : World} {K : PySem.W.Frag} {mg : Str → Option Value} {base : Heap}
/-- what isinstance tells of x, as long as the facts stand -/
def Od (K : PySem.W.Frag) (G : Hp) (x : V) (t : Value) : Prop := ∀ H, Ex G H → TyX K H x t
def Kd (K : PySem.W.Frag) (G : Hp) (x : V) : Prop := ∀ H, Ex G H → Knd K H x
theorem Od.mono {G G' : Hp} {x : V} {t : Value} (h : Od K G x t) (e : Ex G G') : Od K G' x t := fun H e' => h H (e.trans e')
theorem Kd.mono {G G' : Hp} {x : V} (h : Kd K G x) (e : Ex G G') : Kd K G' x := fun H e' => h H (e.trans e')
theorem Kd.int {G : Hp} {i : Int} : Kd K G (.int i) := fun _ _ => Knd.int
/-- a thing that may be a cell: b tells whether it is one -/
def CellT (K : PySem.W.Frag) (G : Hp) (x : V) (b : Bool) : Prop := (b = false ∧ ∃ t, Od K G x t ∧ PySem.W.kitOne K t (.type "tuple") = some false) ∨
  (∃ p xs, x = .ref p ∧ G p = some (.tup xs) ∧ (∀ y ∈ xs, Kd K G y) ∧ xs.length ≤ 100 ∧ b = (decide (xs.length = 2) && xs.all countV))
def sp_is_cell (K : PySem.W.Frag) : Sp := fun vs H Q _ => ∃ G x b, vs = [x] ∧ Ex G H ∧ CellT K G x b ∧ ∀ G1 H1, St G H G1 H1 → Q (.bl b) H1
theorem sc_is_cell : FnScope ["thing", "part"] ["thing"] (defScope s_is_cell) := ⟨rfl, rfl, rfl, by decide +kernel, rfl, by decide +kernel, by decide +kernel⟩
theorem ok_is_cell (T : TX K mg) : FnOk P w K mg base CX0 3 (f_is_cell K) (fdO K (f_is_cell K)) ["thing"] (sp_is_cell K) := by
  refine (F_is_cell T).ok sc_is_cell (fun vs H Q E h => ?_) (fun cdv A outer s H vs Q E hr h => ?_)
  · obtain ⟨_, _, _, rfl, _⟩ := h; rfl
  · obtain ⟨G0, x, b, rfl, e, hc, k⟩ := h
    refine ⟨_, PSs.nox (pss_one (ps_ret (pe_and (pe_callB (isiK (K := K) (by rfl)) (by rfl) (z_isinstance T) PyProof.Rows.boot_isinstance (pa_cons (pv 0) (pa_cons (pe_bltn (v := .ty "tuple") (by rfl) (z_tuple T) (by decide +kernel) rfl) pa_nil))) (pe_and (pe_cmpR op_eq (pe_callB (lenK (K := K) (by rfl)) (by rfl) (z_len T) PySem.boot_len (pa_cons (pv 0) pa_nil)) pe_int (nomark _)) (pe_one (pe_callB (cr_all rfl) (by rfl) (z_all T) PyProof.Rows.boot_all (pa_cons (pe_lc (own := [("part", 1)]) (g := gName 1) (by rfl) sc_is_cell.nd (pi_tup (pv 0)) (blkOk_by (own := [("part", 1)]) (N := ["thing", "part"]) (sc := defScope s_is_cell) (by decide +kernel)) (fun _ _ _ _ _ => (pg_name (i := 1) sc_is_cell.nd rfl (by first | exact Or.inl rfl | exact Or.inr rfl))) (fun _ _ _ _ _ => pts_nil) (fun _ _ _ _ _ => (pe_call (ok_is_count T) (hr.mono (by decide)) (by rfl) (g_is_count T) (F_is_count T).kp (b_is_count T) .nil pass0 (pa_cons (pv 1) pa_nil)))) pa_nil))))))), ?_⟩
    walk_at "go"
    rcases hc with ⟨rfl, t, ty, kt⟩ | ⟨p, xs, rfl, hp, hk, hz, rfl⟩
    · refine isiG (.ty "tuple") (ty H e) kt ?_
      walk_at "go"
      exact k _ _ (Stm.refl e)
    · refine isiG (.ty "tuple") (tyT (e _ _ hp)) (kit_ty (b := "tuple") (r := true) (by decide +kernel)) ?_
      walk_at "go"
      refine lenT (e _ _ hp) ?_
      walk_at "go"
      have e2 : decide (V.int (xs.length : Nat) = V.int 2) = decide (xs.length = 2) := by
        by_cases c : xs.length = 2
        · rw [c]; rfl
        · rw [decide_eq_false c, decide_eq_false]
          intro q
          have := V.int.inj q
          omega
      rw [e2]
      have hz' : xs.length < sizeLine := Nat.lt_of_le_of_lt hz (by decide)
      refine ite_b2 (fun h1 => ?_) (fun h1 => ?_)
      · walk_at "go"
        refine lcT (S := IsB) IsB.mono (fun _ => true) countV e hp hz' (fun x G1 H1 N0 N1 hm s1 n0 n1 => ?_) fun G1 H1 D s1 hD => ?_
        · refine ⟨rfl, ?_⟩
          walk_at "go"
          refine ⟨x, rfl, hk x hm H1 (s1.g.trans s1.i), ?_⟩
          exact n1 _ _ _ (Stm.refl s1.i) rfl rfl
        · walk_at "go"
          refine allL hD s1.i ?_
          have e1 : (((xs.filter fun _ => true).map countV).all id) = xs.all countV := by simp [List.all_map]
          rw [e1]
          rw [h1, Bool.true_and] at k
          exact k _ _ s1
      · rw [h1, Bool.false_and] at k
        exact k _ _ (Stm.refl e)
def sp_checked_cell (K : PySem.W.Frag) : Sp := fun vs H Q E => ∃ G x b, vs = [x] ∧ Ex G H ∧ CellT K G x b ∧ (b = true → ∀ G1 H1, St G H G1 H1 → Q .non H1) ∧ (b = false → ∀ G1 H1, St G H G1 H1 → E (.ref (He.ga K "NoCell")) none H1)
theorem sc_checked_cell : FnScope ["thing"] ["thing"] (defScope s_checked_cell) := ⟨rfl, rfl, rfl, by decide +kernel, rfl, by decide +kernel, by decide +kernel⟩
theorem ok_checked_cell (T : TX K mg) : FnOk P w K mg base (L2N.CX P w) 4 (f_checked_cell K) (fdO K (f_checked_cell K)) ["thing"] (sp_checked_cell K) := by
  refine (F_checked_cell T).ok sc_checked_cell (fun vs H Q E h => ?_) (fun cdv A outer s H vs Q E hr h => ?_)
  · obtain ⟨_, _, _, rfl, _⟩ := h; rfl
  · obtain ⟨G0, x, b, rfl, e, hc, k1, k2⟩ := h
    refine ⟨_, (pss_one (ps_if (pt_not (pt_val (pe_call (ok_is_cell T) (hr.mono (by decide)) (by rfl) (g_is_cell T) (F_is_cell T).kp (b_is_cell T) .nil pass0 (pa_cons (pv 0) pa_nil)))) (pss_one (L2N.ps_raise rfl (L2N.takes_of rfl rfl rfl rfl) (L2N.pmk_own PySem.F.excBase_ValueError (e_NoCell T).1 (g_NoCell T) (e_NoCell T).2.1 (raises_own (e_NoCell T).2.2.1 (e_NoCell T).2.2.2) (by rfl)))) pss_nil)), ?_⟩
    walk_at "go"
    refine ⟨G0, x, b, rfl, e, hc, fun G1 H1 s1 => ?_⟩
    refine ⟨_, rfl, ?_⟩
    cases b with
    | true => exact k1 rfl _ _ s1
    | false => exact k2 rfl _ _ s1
def endLe (n : Int) : Option Int → Bool
  | none => true
  | some l => decide (n ≤ l)
theorem isAt_eq (a : Int) (l : Option Int) (n : Int) : isAt a l n = (decide (a ≤ n) && endLe n l) := by cases l <;> rfl
def hasB (b : Blk) (r k : Int) : Bool := isAt b.t b.b r && isAt b.l b.r k
theorem cell_ok {G : Hp} {c : Addr} {r k : Int} (hc : G c = some (.tup [.int r, .int k])) (h1 : 1 ≤ r) (h2 : 1 ≤ k) : CellT K G (.ref c) true :=
  .inr ⟨c, _, rfl, hc, fun y hy => by
    rcases List.mem_cons.mp hy with rfl | hy
    · exact Kd.int
    · rw [List.mem_singleton.mp hy]; exact Kd.int, by show 2 ≤ 100; decide, by
    show true = (true && (decide (1 ≤ r) && (decide (1 ≤ k) && true)))
    rw [decide_eq_true h1, decide_eq_true h2]; rfl⟩
def sp_Block_has (K : PySem.W.Frag) : Sp := fun vs H Q _ => ∃ G v b c r k, vs = [v, .ref c] ∧ Ex G H ∧ IsBlk K G v b ∧ G c = some (.tup [.int r, .int k]) ∧ 1 ≤ r ∧ 1 ≤ k ∧ ∀ G1 H1, St G H G1 H1 → Q (.bl (hasB b r k)) H1
theorem sc_Block_has : FnScope ["self", "cell", "row", "column"] ["self", "cell"] (defScope s_Block_has) := ⟨rfl, rfl, rfl, by decide +kernel, rfl, by decide +kernel, by decide +kernel⟩
theorem ok_Block_has (T : TX K mg) : FnOk P w K mg base CX0 5 (f_Block_has K) (fdO K (f_Block_has K)) ["self", "cell"] (sp_Block_has K) := by
  refine (F_Block_has T).ok sc_Block_has (fun vs H Q E h => ?_) (fun cdv A outer s H vs Q E hr h => ?_)
  · obtain ⟨_, _, _, _, _, _, rfl, _⟩ := h; rfl
  · obtain ⟨G0, v, b, c, r, k, rfl, e, hb, hc, h1, h2, q⟩ := h
    refine ⟨_, PSs.nox (pss_cons (ps_expr (pe_call (ok_checked_cell T) (hr.mono (by decide)) (by rfl) (g_checked_cell T) (F_checked_cell T).kp (b_checked_cell T) .nil passN (pa_cons (pv 1) pa_nil)))
      (pss_cons (ps_asg (pv 1) (pg_tup (by rfl) (pgs_cons (pg_name (i := 2) sc_Block_has.nd rfl (by first | exact Or.inl rfl | exact Or.inr rfl)) (pgs_cons (pg_name (i := 3) sc_Block_has.nd rfl (by first | exact Or.inl rfl | exact Or.inr rfl)) pgs_nil))))
      (pss_cons (ps_if (PW.pt (pw_or (pt_cmpR op_lt (pv 2) (fldK (K := K) (pv 0) (by rfl) (by rfl)) (nomark _)) (pw_or1 (pt_cmpR op_lt (pv 3) (fldK (K := K) (pv 0) (by rfl) (by rfl)) (nomark _))))) (pss_one (ps_ret pe_bl)) pss_nil)
      (pss_one (ps_ret (pe_and (pe_or (pe_cmpR op_isNG (fldK (K := K) (pv 0) (by rfl) (by rfl)) pe_non (nomark _)) (pe_one (pe_cmpR op_le (pv 2) (fldK (K := K) (pv 0) (by rfl) (by rfl)) (nomark _)))) (pe_one (pe_or (pe_cmpR op_isNG (fldK (K := K) (pv 0) (by rfl) (by rfl)) pe_non (nomark _)) (pe_one (pe_cmpR op_le (pv 3) (fldK (K := K) (pv 0) (by rfl) (by rfl)) (nomark _))))))))))), ?_⟩
    walk_at "go"
    refine ⟨G0, _, true, rfl, e, cell_ok hc h1 h2, fun _ G1 H1 s1 => ?_, fun z => nomatch z⟩
    walk_at "go"
    refine x_gtup (s1.i _ _ (s1.g _ _ hc)) rfl ?_
    walk_at "go"
    have hb1 := IsBlk.mono _ _ _ _ s1.g hb
    refine fB_top T hb1 s1.i ?_
    walk_at "go"
    refine ite_b2 (fun c1 => ?_) (fun c1 => ?_)
    · walk_at "go"
      have hf : hasB b r k = false := by
        have := of_decide_eq_true c1
        unfold hasB isAt
        rw [decide_eq_false (show ¬ b.t ≤ r by omega)]; rfl
      rw [hf] at q
      exact q _ _ s1
    · walk_at "go"
      refine fB_left T hb1 s1.i ?_
      walk_at "go"
      refine ite_b2 (fun c2 => ?_) (fun c2 => ?_)
      · walk_at "go"
        have hf : hasB b r k = false := by
          have := of_decide_eq_true c2
          unfold hasB isAt
          rw [decide_eq_false (show ¬ b.l ≤ k by omega)]
          simp
        rw [hf] at q
        exact q _ _ s1
      · have c1' := of_decide_eq_false c1
        have c2' := of_decide_eq_false c2
        have t1 : decide (b.t ≤ r) = true := decide_eq_true (by omega)
        have t2 : decide (b.l ≤ k) = true := decide_eq_true (by omega)
        walk_at "go"
        refine fB_bottom T hb1 s1.i ?_
        walk_at "go"
        have fin : ∀ (k1 : Bool), k1 = endLe r b.b → ∃ k2, V.bl k1 = .bl k2 ∧ if k2 = true then tOrV (tOp G.rIsN (tFld K (tVar 0) (Str.ofString "right")) (tC V.non)) (tOp (rI0 fun i j => V.bl (decide (i ≤ j))) (tVar 3) (tFld K (tVar 0) (Str.ofString "right"))) [some v, some (.ref c), some (.int r), some (.int k)] H1 Q else Q (.bl false) H1 := by
          intro k1 e1
          refine ⟨k1, rfl, ite_b2 (fun c3 => ?_) (fun c3 => ?_)⟩
          · walk_at "go"
            refine fB_right T hb1 s1.i ?_
            walk_at "go"
            have q1 := q _ _ s1
            unfold hasB at q1
            rw [isAt_eq, isAt_eq, t1, t2, ← e1, c3] at q1
            cases hr : b.r with
            | none =>
              rw [hr] at q1
              exact q1
            | some z =>
              rw [hr] at q1
              walk_at "go"
              refine fB_right T hb1 s1.i ?_
              rw [hr]
              walk_at "go"
              exact q1
          · have q1 := q _ _ s1
            unfold hasB at q1
            rw [isAt_eq, isAt_eq, t1, t2, ← e1, c3] at q1
            exact q1
        cases hb2 : b.b with
        | none => exact fin true (by rw [hb2]; rfl)
        | some z =>
          walk_at "go"
          refine fB_bottom T hb1 s1.i ?_
          rw [hb2]
          walk_at "go"
          obtain ⟨_, ek, hk⟩ := fin _ rfl
          rw [hb2] at ek
          cases ek
          exact hk
end
end GT

/-! ## K62J -/
set_option Elab.async false
set_option linter.all false
set_option maxRecDepth 100000
namespace GT
open PySem PySem.Spec PyProof.Rows L2 G
local macro_rules | `(tactic| walk_at "ex") => `(tactic| first | exact Ex.refl _ | assumption | exact Stm.g (by assumption) | (refine Ex.trans ?_ (Stm.g (by assumption)); walk_at "ex"))
local macro_rules | `(tactic| walk_at "st") => `(tactic| first | exact Stm.refl (by assumption) | assumption | (refine Stm.trans ?_ (by assumption); walk_at "st"))
local macro_rules | `(tactic| walk_at "i") => `(tactic| first | assumption | exact Stm.i (by assumption))
local macro_rules | `(tactic| walk_at "fact") => `(tactic| first | rfl | exact (rfl : V.non = optV none) | exact (rfl : V.int _ = optV (some _)) | assumption)
local macro_rules | `(tactic| walk_at "g") => `(tactic| first
  | with_reducible refine x_seq ?_
  | with_reducible refine x_next ?_
  | with_reducible refine x_asg ?_
  | with_reducible refine x_ret ?_
  | with_reducible refine x_retN ?_
  | with_reducible refine x_drop ?_
  | with_reducible refine x_ifs ?_
  | ((with_reducible refine' x_var ?hv ?_); (case hv => exact rfl))
  | with_reducible refine x_c ?_
  | with_reducible refine x_op ?_
  | with_reducible refine x_un ?_
  | with_reducible refine x_test ?_
  | with_reducible refine x_B ?_
  | with_reducible refine x_bl ?_
  | with_reducible refine x_and ?_
  | with_reducible refine x_or ?_
  | with_reducible refine x_not ?_
  | with_reducible refine x_andV ?_
  | with_reducible refine x_orV ?_
  | with_reducible refine x_notV ?_
  | with_reducible refine x_ife ?_
  | with_reducible refine x_isN ?_
  | with_reducible refine x_notN ?_
  | with_reducible refine x_nil ?_
  | with_reducible refine x_cons ?_
  | with_reducible refine x_cb ?_
  | with_reducible refine x_call ?_
  | ((with_reducible refine' x_callL ?hv ?_); (case hv => exact rfl))
  | with_reducible refine x_gname ?_
  | with_reducible refine x_I0 ?_
  | ((with_reducible refine' x_eq ?hv ?_); (case hv => exact rfl))
  | ((with_reducible refine' x_ne ?hv ?_); (case hv => exact rfl))
  | with_reducible refine x_tupG ?_
  | with_reducible refine x_lstG ?_
  | with_reducible refine x_lc ?_
  | (with_reducible refine x_U ?_)
  | ((with_reducible refine' ite_T ?hv ?_); (case hv => exact rfl))
  | ((with_reducible refine' ite_F ?hv ?_); (case hv => exact rfl))
  | with_reducible refine x_for ?_
  | with_reducible refine x_iEnum ?_
  | with_reducible refine x_iList ?_
  | with_reducible refine x_iTup ?_
  | with_reducible refine x_gcons ?_
  | with_reducible refine x_gnil ?_
  | with_reducible refine x_bm ?_
  | with_reducible refine x_fldG ?_
  | with_reducible refine x_meth ?_
  | with_reducible refine x_sl ?_
  | with_reducible refine x_nopart ?_
  | with_reducible refine x_part ?_
  | with_reducible refine x_int ?_
  | with_reducible refine x_yes ?_
  | with_reducible refine x_isNG ?_
  | with_reducible refine x_notNG ?_
  | fail "no step")
local macro_rules | `(tactic| walk_at "g2") => `(tactic| first
  | with_reducible refine x_sfld ?_
  | with_reducible refine x_make ?_
  | with_reducible refine x_dnew ?_
  | with_reducible refine x_lcT ?_
  | with_reducible refine x_lcS ?_
  | with_reducible refine x_disp ?_
  | with_reducible refine x_pcons ?_
  | with_reducible refine x_pnil ?_
  | with_reducible refine x_dnewK ?_
  | with_reducible refine x_dput ?_
  | with_reducible refine x_gsub ?_
  | with_reducible refine x_dget2 ?_
  | with_reducible refine x_litems ?_
  | with_reducible refine x_bmX ?_
  | with_reducible refine x_ckw ?_
  | walk_at "g")
local macro_rules | `(tactic| walk_at "go") => `(tactic| repeat' walk_at "g2")

section
variable {P : Program} {w : World} {K : PySem.W.Frag} {mg : Str → Option Value} {base : Heap}
/-! ### an area's form -/
theorem fA_form {G H : Hp} {v : V} {xs : List Blk} {Q : VK} (T : TX K mg) (ha : IsAr K G v xs) (e : Ex G H) (h : ∀ q, IsL (IsBlk K) G (.ref q) xs → Q (.ref q) H) : FldGo K "form" v H Q := by
  obtain ⟨p, dx, q, rfl, hp, hq⟩ := ha
  exact fldG (e _ _ hp) (k_Area T) (n_Area_form T) (arF_form q) (h q hq)
theorem mA {G H : Hp} {v : V} {xs : List Blk} {m : Str} {sp : Sp} {dvs : List V} {E : XK} {t : TA} {σ : L2.St} {Q : VK} (ha : IsAr K G v xs) (e : Ex G H) (hm : ¬ m = "form") (h : t σ H fun vs H2 => sp (v :: (vs ++ dvs)) H2 Q E) : MethGo (He.ga K "Area") m sp dvs E t σ v H Q := by
  obtain ⟨p, dx, q, rfl, hp, hq⟩ := ha
  exact methG (e _ _ hp) (arF_no q hm) h
theorem mB {G H : Hp} {v : V} {b : Blk} {m : Str} {sp : Sp} {dvs : List V} {E : XK} {t : TA} {σ : L2.St} {Q : VK} (ha : IsBlk K G v b) (e : Ex G H) (h1 : ¬ m = "right") (h2 : ¬ m = "bottom") (h3 : ¬ m = "left") (h4 : ¬ m = "top") (h : t σ H fun vs H2 => sp (v :: (vs ++ dvs)) H2 Q E) : MethGo (He.ga K "Block") m sp dvs E t σ v H Q := by
  obtain ⟨p, dx, rfl, hp⟩ := ha
  exact methG (e _ _ hp) (blkF_no b h1 h2 h3 h4) h
def sp_Area_len (K : PySem.W.Frag) : Sp := fun vs H Q _ => ∃ G v xs, vs = [v] ∧ Ex G H ∧ IsAr K G v xs ∧ Q (.int (xs.length : Nat)) H
theorem sc_Area___len__ : FnScope ["self"] ["self"] (defScope s_Area___len__) := ⟨rfl, rfl, rfl, by decide +kernel, rfl, by decide +kernel, by decide +kernel⟩
theorem ok_Area___len__ (T : TX K mg) : FnOk P w K mg base CX0 1 (f_Area___len__ K) (fdO K (f_Area___len__ K)) ["self"] (sp_Area_len K) := by
  refine (F_Area___len__ T).ok sc_Area___len__ (fun vs H Q E h => ?_) (fun cdv A outer s H vs Q E hr h => ?_)
  · obtain ⟨_, _, _, rfl, _⟩ := h; rfl
  · obtain ⟨G0, v, xs, rfl, e, ha, q⟩ := h
    refine ⟨_, PSs.nox (pss_one (ps_ret (pe_callB (lenK (K := K) (by rfl)) (by rfl) (z_len T) PySem.boot_len (pa_cons (fldK (K := K) (pv 0) (by rfl) (by rfl)) pa_nil)))), ?_⟩
    walk_at "go"
    refine fA_form T ha e fun a hq => ?_
    walk_at "go"
    exact lenL hq e q
def sp_Area_blocks (K : PySem.W.Frag) : Sp := fun vs H Q _ => ∃ G a dx q ws, vs = [.ref a] ∧ Ex G H ∧ G a = some (.ins (He.ga K "Area") dx (arF q)) ∧ G q = some (.lst ws) ∧ ∀ G1 H1 r, St G H G1 H1 → G1 r = some (.lst ws) → Q (.ref r) H1
theorem sc_Area_blocks : FnScope ["self"] ["self"] (defScope s_Area_blocks) := ⟨rfl, rfl, rfl, by decide +kernel, rfl, by decide +kernel, by decide +kernel⟩
theorem ok_Area_blocks (T : TX K mg) : FnOk P w K mg base CX0 1 (f_Area_blocks K) (fdO K (f_Area_blocks K)) ["self"] (sp_Area_blocks K) := by
  refine (F_Area_blocks T).ok sc_Area_blocks (fun vs H Q E h => ?_) (fun cdv A outer s H vs Q E hr h => ?_)
  · obtain ⟨_, _, _, _, _, rfl, _⟩ := h; rfl
  · obtain ⟨G0, a, dx, q, ws, rfl, e, ha, hq, k⟩ := h
    refine ⟨_, PSs.nox (pss_one (ps_ret (pe_callTy (listK (K := K) (by rfl)) (by rfl) (z_list T) (by decide +kernel) (pa_cons (fldK (K := K) (pv 0) (by rfl) (by rfl)) pa_nil)))), ?_⟩
    walk_at "go"
    refine fldG (e _ _ ha) (k_Area T) (n_Area_form T) (arF_form q) ?_
    walk_at "go"
    refine ⟨q, ws, rfl, .inl (sq (e _ _ hq)), fun r hr => ?_⟩
    obtain ⟨s1, g1⟩ := alF (o := .lst ws) hr e
    exact k _ _ r s1 g1
def sp_Area_has (K : PySem.W.Frag) : Sp := fun vs H Q _ => ∃ G v xs c r k, vs = [v, .ref c] ∧ Ex G H ∧ IsAr K G v xs ∧ xs.length ≤ 1500 ∧ G c = some (.tup [.int r, .int k]) ∧ 1 ≤ r ∧ 1 ≤ k ∧ ∀ G1 H1, St G H G1 H1 → Q (.bl (xs.any fun b => hasB b r k)) H1
theorem sc_Area_has : FnScope ["self", "cell", "block"] ["self", "cell"] (defScope s_Area_has) := ⟨rfl, rfl, rfl, by decide +kernel, rfl, by decide +kernel, by decide +kernel⟩
theorem ok_Area_has (T : TX K mg) : FnOk P w K mg base CX0 6 (f_Area_has K) (fdO K (f_Area_has K)) ["self", "cell"] (sp_Area_has K) := by
  refine (F_Area_has T).ok sc_Area_has (fun vs H Q E h => ?_) (fun cdv A outer s H vs Q E hr h => ?_)
  · obtain ⟨_, _, _, _, _, _, rfl, _⟩ := h; rfl
  · obtain ⟨G0, v, xs, c, r, k, rfl, e, ha, hz, hc, h1, h2, q⟩ := h
    have hz' : xs.length < sizeLine := Nat.lt_of_le_of_lt hz (by decide)
    refine ⟨_, PSs.nox (pss_cons (ps_expr (pe_call (ok_checked_cell T) (hr.mono (by decide)) (by rfl) (g_checked_cell T) (F_checked_cell T).kp (b_checked_cell T) .nil passN (pa_cons (pv 1) pa_nil)))
      (pss_one (ps_ret (pe_callB (cr_any rfl) (by rfl) (z_any T) PyProof.Rows.boot_any (pa_cons (pe_lc (own := [("block", 2)]) (g := gName 2) (by rfl) sc_Area_has.nd (pi_list (fldK (K := K) (pv 0) (by rfl) (by rfl))) (blkOk_by (own := [("block", 2)]) (N := ["self", "cell", "block"]) (sc := defScope s_Area_has) (by decide +kernel)) (fun _ _ _ _ _ => (pg_name (i := 2) sc_Area_has.nd rfl (by first | exact Or.inl rfl | exact Or.inr rfl))) (fun _ _ _ _ _ => pts_nil) (fun _ _ _ _ _ => (pe_meth (pv 2) (k_Block T) (m_Block_has T) (ok_Block_has T) (hr.mono (by decide)) (b_Block_has T) .nil pass0 (pa_cons (pv 1) pa_nil)))) pa_nil))))), ?_⟩
    walk_at "go"
    refine ⟨G0, _, true, rfl, e, cell_ok hc h1 h2, fun _ G1 H1 s1 => ?_, fun z => nomatch z⟩
    walk_at "go"
    refine fA_form T (IsAr.mono _ _ _ _ s1.g ha) s1.i fun a hq => ?_
    walk_at "go"
    refine lcG (R := IsBlk K) (S := IsB) IsBlk.mono IsB.mono (fun _ => true) (fun b => hasB b r k) s1.i hq hz' (fun x w' G2 H2 N0 N1 _ s2 hw n0 n1 => ?_) fun G2 H2 D s2 hD => ?_
    · refine ⟨rfl, ?_⟩
      walk_at "go"
      refine mB hw s2.i (by decide +kernel) (by decide +kernel) (by decide +kernel) (by decide +kernel) ?_
      walk_at "go"
      exact ⟨G2, _, x, c, r, k, rfl, s2.i, hw, s2.g _ _ (s1.g _ _ hc), h1, h2, fun G3 H3 s3 => n1 _ _ _ s3 rfl rfl⟩
    · walk_at "go"
      refine anyL hD s2.i ?_
      rw [any_all]
      exact q _ _ (s1.trans s2)
def okBy (xs ys : List Blk) (g : Bool → Bool → Bool) : Bool := decide (xs.length + ys.length ≤ 1500) && okF (bandsBy xs ys g) && okN (formOf (bandsBy xs ys g))
def byA (xs ys : List Blk) (g : Bool → Bool → Bool) : List Blk := norm (formOf (bandsBy xs ys g))
def sp_Area_by (K : PySem.W.Frag) : Sp := fun vs H Q _ => ∃ G v u f xs ys g, vs = [v, u, .ref f] ∧ Ex G H ∧ Kp K f g ∧ IsAr K G v xs ∧ IsAr K G u ys ∧ okBy xs ys g = true ∧ ∀ G1 H1 r, St G H G1 H1 → IsAr K G1 r (byA xs ys g) → Q r H1
theorem sc_Area_by : FnScope ["self", "other", "keeps"] ["self", "other", "keeps"] (defScope s_Area_by) := ⟨rfl, rfl, rfl, by decide +kernel, rfl, by decide +kernel, by decide +kernel⟩
theorem ok_Area_by (T : TX K mg) : FnOk P w K mg base CX0 9 (f_Area_by K) (fdO K (f_Area_by K)) ["self", "other", "keeps"] (sp_Area_by K) := by
  refine (F_Area_by T).ok sc_Area_by (fun vs H Q E h => ?_) (fun cdv A outer s H vs Q E hr h => ?_)
  · obtain ⟨_, _, _, _, _, _, _, rfl, _⟩ := h; rfl
  · obtain ⟨G0, v, u, f, xs, ys, g, rfl, e, kp, hv, hu, ok, q⟩ := h
    unfold okBy at ok
    rw [Bool.and_eq_true, Bool.and_eq_true] at ok
    obtain ⟨⟨ok0, ok1⟩, ok2⟩ := ok
    obtain ⟨o1, o2, o3, o4⟩ := okF_of ok1
    refine ⟨_, PSs.nox (pss_cons (ps_expr (pe_call (ok_checked_area T) (hr.mono (by decide)) (by rfl) (g_checked_area T) (F_checked_area T).kp (b_checked_area T) .nil passN (pa_cons (pv 1) pa_nil)))
      (pss_one (ps_ret (pe_make (mk_Area T) (ok_Area___init__ T) (hr.mono (by decide)) (by rfl) (g_Area T) (b_Area___init___2 T).choose_spec.2 (b_Area___init___2 T).choose_spec.1 pass0 (pa_cons (pe_call (ok_form_of T) (hr.mono (by decide)) (by rfl) (g_form_of T) (F_form_of T).kp (b_form_of T) .nil pass0 (pa_cons (pe_call (ok_bands_by T) (hr.mono (by decide)) (by rfl) (g_bands_by T) (F_bands_by T).kp (b_bands_by T) .nil pass0 (pa_cons (fldK (K := K) (pv 0) (by rfl) (by rfl)) (pa_cons (fldK (K := K) (pv 1) (by rfl) (by rfl)) (pa_cons (pv 2) pa_nil)))) pa_nil)) pa_nil))))), ?_⟩
    walk_at "go"
    refine ⟨_, _, true, rfl, IsAr.ty T hu e, i_Area_Area T, fun _ => ?_, fun z => nomatch z⟩
    walk_at "go"
    refine fA_form T hv e fun a hq => ?_
    walk_at "go"
    refine fA_form T hu e fun a2 hq2 => ?_
    walk_at "go"
    refine ⟨G0, _, _, f, xs, ys, g, rfl, kp, e, hq, hq2, of_decide_eq_true ok0, fun G1 H1 r1 s1 h1 => ?_⟩
    walk_at "go"
    refine ⟨G1, _, _, rfl, s1.i, h1, o1, o2, o3, o4, fun G2 H2 r2 s2 h2 => ?_⟩
    walk_at "go"
    exact mkArea rfl (.inr h2) ok2 s2.i fun p G3 H3 s3 h3 => q _ _ _ ((s1.trans s2).trans s3) h3
def spBy2 (K : PySem.W.Frag) (g : Bool → Bool → Bool) : Sp := fun vs H Q _ => ∃ G v u xs ys, vs = [v, u] ∧ Ex G H ∧ IsAr K G v xs ∧ IsAr K G u ys ∧ okBy xs ys g = true ∧ ∀ G1 H1 r, St G H G1 H1 → IsAr K G1 r (byA xs ys g) → Q r H1
theorem sc_Area_joined : FnScope ["self", "other"] ["self", "other"] (defScope s_Area_joined) := ⟨rfl, rfl, rfl, by decide +kernel, rfl, by decide +kernel, by decide +kernel⟩
theorem ok_Area_joined (T : TX K mg) : FnOk P w K mg base CX0 10 (f_Area_joined K) (fdO K (f_Area_joined K)) ["self", "other"] (spBy2 K fun a b => a || b) := by
  refine (F_Area_joined T).ok sc_Area_joined (fun vs H Q E h => ?_) (fun cdv A outer s H vs Q E hr h => ?_)
  · obtain ⟨_, _, _, _, _, rfl, _⟩ := h; rfl
  · obtain ⟨G0, v, u, xs, ys, rfl, e, hv, hu, ok, q⟩ := h
    refine ⟨_, PSs.nox (pss_one (ps_ret (pe_meth (pv 0) (k_Area T) (m_Area_by T) (ok_Area_by T) (hr.mono (by decide)) (b_Area_by T) .nil pass0 (pa_cons (pv 1) (pa_cons (pe_glob (v := .ref (He.ga K "either")) (by rfl) (g_either T) rfl) pa_nil))))), ?_⟩
    walk_at "go"
    refine mA hv e (by decide +kernel) ?_
    walk_at "go"
    exact ⟨G0, _, _, _, xs, ys, _, rfl, e, .either, hv, hu, ok, fun G1 H1 r s h => q G1 H1 r s h⟩
theorem sc_Area_without : FnScope ["self", "other"] ["self", "other"] (defScope s_Area_without) := ⟨rfl, rfl, rfl, by decide +kernel, rfl, by decide +kernel, by decide +kernel⟩
theorem ok_Area_without (T : TX K mg) : FnOk P w K mg base CX0 10 (f_Area_without K) (fdO K (f_Area_without K)) ["self", "other"] (spBy2 K fun a b => a && !b) := by
  refine (F_Area_without T).ok sc_Area_without (fun vs H Q E h => ?_) (fun cdv A outer s H vs Q E hr h => ?_)
  · obtain ⟨_, _, _, _, _, rfl, _⟩ := h; rfl
  · obtain ⟨G0, v, u, xs, ys, rfl, e, hv, hu, ok, q⟩ := h
    refine ⟨_, PSs.nox (pss_one (ps_ret (pe_meth (pv 0) (k_Area T) (m_Area_by T) (ok_Area_by T) (hr.mono (by decide)) (b_Area_by T) .nil pass0 (pa_cons (pv 1) (pa_cons (pe_glob (v := .ref (He.ga K "one_alone")) (by rfl) (g_one_alone T) rfl) pa_nil))))), ?_⟩
    walk_at "go"
    refine mA hv e (by decide +kernel) ?_
    walk_at "go"
    exact ⟨G0, _, _, _, xs, ys, _, rfl, e, .one_alone, hv, hu, ok, fun G1 H1 r s h => q G1 H1 r s h⟩
end
end GT

/-! ## K62K -/
set_option Elab.async false
set_option linter.all false
set_option maxRecDepth 100000
namespace GT
open PySem PySem.Spec PyProof.Rows L2 G
local macro_rules | `(tactic| walk_at "ex") => `(tactic| first | exact Ex.refl _ | assumption | exact Stm.g (by assumption) | (refine Ex.trans ?_ (Stm.g (by assumption)); walk_at "ex"))
local macro_rules | `(tactic| walk_at "st") => `(tactic| first | exact Stm.refl (by assumption) | assumption | (refine Stm.trans ?_ (by assumption); walk_at "st"))
local macro_rules | `(tactic| walk_at "i") => `(tactic| first | assumption | exact Stm.i (by assumption))
local macro_rules | `(tactic| walk_at "fact") => `(tactic| first | rfl | exact (rfl : V.non = optV none) | exact (rfl : V.int _ = optV (some _)) | assumption)
local macro_rules | `(tactic| walk_at "g") => `(tactic| first
  | with_reducible refine x_seq ?_
  | with_reducible refine x_next ?_
  | with_reducible refine x_asg ?_
  | with_reducible refine x_ret ?_
  | with_reducible refine x_retN ?_
  | with_reducible refine x_drop ?_
  | with_reducible refine x_ifs ?_
  | ((with_reducible refine' x_var ?hv ?_); (case hv => exact rfl))
  | with_reducible refine x_c ?_
  | with_reducible refine x_op ?_
  | with_reducible refine x_un ?_
  | with_reducible refine x_test ?_
  | with_reducible refine x_B ?_
  | with_reducible refine x_bl ?_
  | with_reducible refine x_and ?_
  | with_reducible refine x_or ?_
  | with_reducible refine x_not ?_
  | with_reducible refine x_andV ?_
  | with_reducible refine x_orV ?_
  | with_reducible refine x_notV ?_
  | with_reducible refine x_ife ?_
  | with_reducible refine x_isN ?_
  | with_reducible refine x_notN ?_
  | with_reducible refine x_nil ?_
  | with_reducible refine x_cons ?_
  | with_reducible refine x_cb ?_
  | with_reducible refine x_call ?_
  | ((with_reducible refine' x_callL ?hv ?_); (case hv => exact rfl))
  | with_reducible refine x_gname ?_
  | with_reducible refine x_I0 ?_
  | ((with_reducible refine' x_eq ?hv ?_); (case hv => exact rfl))
  | ((with_reducible refine' x_ne ?hv ?_); (case hv => exact rfl))
  | with_reducible refine x_tupG ?_
  | with_reducible refine x_lstG ?_
  | with_reducible refine x_lc ?_
  | (with_reducible refine x_U ?_)
  | ((with_reducible refine' ite_T ?hv ?_); (case hv => exact rfl))
  | ((with_reducible refine' ite_F ?hv ?_); (case hv => exact rfl))
  | with_reducible refine x_for ?_
  | with_reducible refine x_iEnum ?_
  | with_reducible refine x_iList ?_
  | with_reducible refine x_iTup ?_
  | with_reducible refine x_gcons ?_
  | with_reducible refine x_gnil ?_
  | with_reducible refine x_bm ?_
  | with_reducible refine x_fldG ?_
  | with_reducible refine x_meth ?_
  | with_reducible refine x_sl ?_
  | with_reducible refine x_nopart ?_
  | with_reducible refine x_part ?_
  | with_reducible refine x_int ?_
  | with_reducible refine x_yes ?_
  | with_reducible refine x_isNG ?_
  | with_reducible refine x_notNG ?_
  | fail "no step")
local macro_rules | `(tactic| walk_at "g2") => `(tactic| first
  | with_reducible refine x_sfld ?_
  | with_reducible refine x_make ?_
  | with_reducible refine x_dnew ?_
  | with_reducible refine x_lcT ?_
  | with_reducible refine x_lcS ?_
  | with_reducible refine x_disp ?_
  | with_reducible refine x_pcons ?_
  | with_reducible refine x_pnil ?_
  | with_reducible refine x_dnewK ?_
  | with_reducible refine x_dput ?_
  | with_reducible refine x_gsub ?_
  | with_reducible refine x_dget2 ?_
  | with_reducible refine x_litems ?_
  | with_reducible refine x_bmX ?_
  | with_reducible refine x_ckw ?_
  | walk_at "g")
local macro_rules | `(tactic| walk_at "go") => `(tactic| repeat' walk_at "g2")

section
variable {P : Program} {w : World} {K : PySem.W.Frag} {mg : Str → Option Value} {base : Heap}
/-! ### values -/
def signs : List Nat := (Str.ofString "abcdefghijklmnopqrstuvwxyz0123456789 ").cps.toList
def okV (z : Str) : Bool := decide (z.cps.size ≤ 40) && z.cps.toList.all fun c => decide (c ∈ signs)
/-- a thing that may be a value: b tells whether it is one -/
def ValT (K : PySem.W.Frag) (G : Hp) (x : V) (b : Bool) : Prop := (b = false ∧ ∃ t, Od K G x t ∧ PySem.W.kitOne K t (.type "str") = some false) ∨ (∃ z : Str, x = .str z ∧ z.cps.size ≤ 1000 ∧ b = okV z)
def sp_check_value (K : PySem.W.Frag) : Sp := fun vs H Q E => ∃ G x b, vs = [x] ∧ Ex G H ∧ ValT K G x b ∧ (b = true → ∀ G1 H1, St G H G1 H1 → Q .non H1) ∧ (b = false → ∀ G1 H1, St G H G1 H1 → E (.ref (He.ga K "NoValue")) none H1)
theorem sc_check_value : FnScope ["thing", "sign"] ["thing"] (defScope s_check_value) := ⟨rfl, rfl, rfl, by decide +kernel, rfl, by decide +kernel, by decide +kernel⟩
theorem ok_check_value (T : TX K mg) : FnOk P w K mg base (L2N.CX P w) 1 (f_check_value K) (fdO K (f_check_value K)) ["thing"] (sp_check_value K) := by
  refine (F_check_value T).ok sc_check_value (fun vs H Q E h => ?_) (fun cdv A outer s H vs Q E hr h => ?_)
  · obtain ⟨_, _, _, rfl, _⟩ := h; rfl
  · obtain ⟨G0, x, b, rfl, e, hv, k1, k2⟩ := h
    refine ⟨_, (pss_one (ps_if (PW.pt (pw_or (pt_not (pt_val (pe_callB (isiK (K := K) (by rfl)) (by rfl) (z_isinstance T) PyProof.Rows.boot_isinstance (pa_cons (pv 0) (pa_cons (pe_bltn (v := .ty "str") (by rfl) (z_str T) (by decide +kernel) rfl) pa_nil))))) (pw_or (pt_cmpR op_gt (pe_callB lenS (by rfl) (z_len T) PySem.boot_len (pa_cons (pv 0) pa_nil)) (pe_glob (v := .int 40) (by rfl) (c_MOST T).choose_spec ⟨_, rfl⟩) (nomark _)) (pw_or1 (pt_not (pt_val (pe_callB (cr_all rfl) (by rfl) (z_all T) PyProof.Rows.boot_all (pa_cons (pe_lc (own := [("sign", 1)]) (g := gName 1) (by rfl) sc_check_value.nd (pi_str (pv 0)) (blkOk_by (own := [("sign", 1)]) (N := ["thing", "sign"]) (sc := defScope s_check_value) (by decide +kernel)) (fun _ _ _ _ _ => (pg_name (i := 1) sc_check_value.nd rfl (by first | exact Or.inl rfl | exact Or.inr rfl))) (fun _ _ _ _ _ => pts_nil) (fun _ _ _ _ _ => (pe_cmpR op_inS (pv 1) (pe_glob (v := .str "abcdefghijklmnopqrstuvwxyz0123456789 ") (by rfl) (c_SIGNS T).choose_spec ⟨_, rfl⟩) (by rfl)))) pa_nil)))))))) (pss_one (L2N.ps_raise rfl (L2N.takes_of rfl rfl rfl rfl) (L2N.pmk_own PySem.F.excBase_ValueError (e_NoValue T).1 (g_NoValue T) (e_NoValue T).2.1 (raises_own (e_NoValue T).2.2.1 (e_NoValue T).2.2.2) (by rfl)))) pss_nil)), ?_⟩
    walk_at "go"
    rcases hv with ⟨rfl, t, ty, kt⟩ | ⟨z, rfl, hz, rfl⟩
    · refine isiG (.ty "str") (ty H e) kt ?_
      walk_at "go"
      exact k2 rfl _ _ (Stm.refl e)
    · refine isiG (.ty "str") (.base (.str z)) (kit_ty (b := "str") (r := true) (by decide +kernel)) ?_
      walk_at "go"
      have hz1 : z.length ≤ sizeLine := Nat.le_trans hz (by decide)
      refine ⟨z, rfl, hz1, ?_⟩
      walk_at "go"
      refine ite_b2 (fun c1 => ?_) (fun c1 => ?_)
      · walk_at "go"
        have hf : okV z = false := by
          have h0 := of_decide_eq_true c1
          have h1 : (z.length : Int) = (z.cps.size : Int) := rfl
          unfold okV
          rw [decide_eq_false (by omega)]; rfl
        exact k2 hf _ _ (Stm.refl e)
      · have h0 := of_decide_eq_false c1
        have h1 : (z.length : Int) = (z.cps.size : Int) := rfl
        have hs : decide (z.cps.size ≤ 40) = true := decide_eq_true (by omega)
        walk_at "go"
        refine ⟨z, rfl, ?_⟩
        refine lcS (S := IsB) IsB.mono (fun c => decide (c ∈ signs)) e (Nat.lt_of_le_of_lt hz (by decide)) (fun c G1 H1 N0 N1 hm s1 n1 => ?_) fun G1 H1 D s1 hD => ?_
        · refine ⟨rfl, ?_⟩
          walk_at "go"
          exact ⟨c, _, rfl, rfl, n1 _ _ _ (Stm.refl s1.i) rfl⟩
        · walk_at "go"
          refine allL hD s1.i ?_
          have e1 : ((z.cps.toList.map fun c => decide (c ∈ signs)).all id) = okV z := by
            unfold okV
            rw [hs, Bool.true_and, List.all_map]; rfl
          rw [e1]
          refine ⟨_, rfl, ?_⟩
          cases hb : okV z with
          | true => exact k1 hb _ _ s1
          | false => exact k2 hb _ _ s1
/-! ### sheets -/
theorem fS_held {G H : Hp} {p d : Addr} {kvs : List (Key × V)} {Q : VK} (T : TX K mg) (m : MuS K G H p d kvs) (h : Q (.ref d) H) : FldGo K "held" (.ref p) H Q := by
  obtain ⟨dx, hp⟩ := m.o
  exact fldG hp.1 (k_Sheet T) (n_Sheet_held T) (shF_held d) h
theorem mS {G H : Hp} {p d : Addr} {kvs : List (Key × V)} {m : Str} {sp : Sp} {dvs : List V} {E : XK} {t : TA} {σ : L2.St} {Q : VK} (ms : MuS K G H p d kvs) (hm : ¬ m = "held") (h : t σ H fun vs H2 => sp (.ref p :: (vs ++ dvs)) H2 Q E) : MethGo (He.ga K "Sheet") m sp dvs E t σ (.ref p) H Q := by
  obtain ⟨dx, hp⟩ := ms.o
  exact methG hp.1 (shF_no d hm) h
def all1 : List Blk := [⟨1, 1, none, none⟩]
theorem norm_all : norm all1 = all1 := by decide +kernel
theorem okN_all : okN all1 = true := by decide +kernel
theorem norm_nil : norm [] = [] := by decide +kernel
theorem okN_nil : okN [] = true := by decide +kernel
def sp_Sheet_init (K : PySem.W.Frag) : Sp := fun vs H Q _ => ∃ G p dx, vs = [.ref p] ∧ Ex G H ∧ Mu G H p (.ins (He.ga K "Sheet") dx []) ∧
  ∀ G1 H1 d kvs, Stm [p] G H G1 H1 → MuS K G1 H1 p d kvs → HD K G1 kvs [("", all1)] → H d = none → Q .non H1
theorem sc_Sheet___init__ : FnScope ["self"] ["self"] (defScope s_Sheet___init__) := ⟨rfl, rfl, rfl, by decide +kernel, rfl, by decide +kernel, by decide +kernel⟩
theorem ok_Sheet___init__ (T : TX K mg) : FnOk P w K mg base CX0 9 (f_Sheet___init__ K) (fdO K (f_Sheet___init__ K)) ["self"] (sp_Sheet_init K) := by
  refine (F_Sheet___init__ T).ok sc_Sheet___init__ (fun vs H Q E h => ?_) (fun cdv A outer s H vs Q E hr h => ?_)
  · obtain ⟨_, _, _, rfl, _⟩ := h; rfl
  · obtain ⟨G0, p, dx, rfl, e, mp, k⟩ := h
    refine ⟨_, PSs.nox (pss_one (ps_fld (pv 0) (pe_disp (pps_cons pe_str (pe_make (mk_Area T) (ok_Area___init__ T) (hr.mono (by decide)) (by rfl) (g_Area T) (b_Area___init___2 T).choose_spec.2 (b_Area___init___2 T).choose_spec.1 pass0 (pa_cons (pe_lst (pa_cons (pe_make0 (mk_Block T) (ok_Block___init__ T) (hr.mono (by decide)) (by rfl) (g_Block T) (b_Block___init___1 T).choose_spec.2 (b_Block___init___1 T).choose_spec.1 pass0) pa_nil)) pa_nil)) pps_nil) (by rfl) (by rfl) (fun z => by cases z) (by decide)) (by rfl))), ?_⟩
    walk_at "go"
    refine dispM e fun d H1 hd s1 m1 => ?_
    walk_at "go"
    refine mkBlk (b := ⟨1, 1, none, none⟩) rfl (by decide) s1.i fun pb G2 H2 s2 hb => ?_
    walk_at "go"
    refine lstI s2.i (by show 1 ≤ 1000; decide) fun pl G3 H3 s3 g3 => ?_
    walk_at "go"
    have hL : IsL (IsBlk K) G3 (.ref pl) all1 := ⟨pl, _, rfl, g3, .cons (IsBlk.mono _ _ _ _ s3.g hb) .nil⟩
    refine mkArea rfl (.inr hL) okN_all s3.i fun pa G4 H4 s4 ha => ?_
    rw [norm_all] at ha
    walk_at "go"
    have st := (s2.trans s3).trans s4
    have m4 := st.mu m1
    have hne : p ≠ d := fun c => by have q := mp.1; rw [c, hd] at q; cases q
    refine ⟨m4.1, [(Sum.inr "", .ref pa)], rfl, by show 1 ≤ 15; decide, ?_⟩
    obtain ⟨s5, m5⟩ := chgF (o' := .dK (mergeK [] [(Sum.inr (Str.ofString ""), V.ref pa)])) m4 s4.i
    have sa : Stm [d] G0 H G4 _ := (St.up ((s1.trans st))).trans s5
    have sb : St G0 H G4 _ := Stm.fresh (Stm.refl e) sa fun a ha => by rw [List.mem_singleton.mp ha]; exact hd
    walk_at "go"
    have mp5 := sb.mu mp
    refine setF mp5.1 (k_Sheet T) (n_Sheet_held T) (by decide) ?_
    obtain ⟨s6, m6⟩ := chgF (o' := .ins (He.ga K "Sheet") dx (shF d)) mp5 sb.i
    refine k G4 _ d [(Sum.inr (Str.ofString ""), V.ref pa)] ((St.up sb).trans s6) ⟨⟨dx, m6⟩, ?_⟩ (.cons ⟨rfl, ha⟩ .nil) hd
    exact s6.m _ _ (fun q => hne (List.mem_singleton.mp q).symm) m5
end
end GT

/-! ## K62L -/
set_option Elab.async false
set_option linter.all false
set_option maxRecDepth 100000
namespace GT
open PySem PySem.Spec PyProof.Rows L2 G
local macro_rules | `(tactic| walk_at "ex") => `(tactic| first | exact Ex.refl _ | assumption | exact Stm.g (by assumption) | (refine Ex.trans ?_ (Stm.g (by assumption)); walk_at "ex"))
local macro_rules | `(tactic| walk_at "st") => `(tactic| first | exact Stm.refl (by assumption) | assumption | (refine Stm.trans ?_ (by assumption); walk_at "st"))
local macro_rules | `(tactic| walk_at "i") => `(tactic| first | assumption | exact Stm.i (by assumption))
local macro_rules | `(tactic| walk_at "fact") => `(tactic| first | rfl | exact (rfl : V.non = optV none) | exact (rfl : V.int _ = optV (some _)) | assumption)
local macro_rules | `(tactic| walk_at "g") => `(tactic| first
  | with_reducible refine x_seq ?_
  | with_reducible refine x_next ?_
  | with_reducible refine x_asg ?_
  | with_reducible refine x_ret ?_
  | with_reducible refine x_retN ?_
  | with_reducible refine x_drop ?_
  | with_reducible refine x_ifs ?_
  | ((with_reducible refine' x_var ?hv ?_); (case hv => exact rfl))
  | with_reducible refine x_c ?_
  | with_reducible refine x_op ?_
  | with_reducible refine x_un ?_
  | with_reducible refine x_test ?_
  | with_reducible refine x_B ?_
  | with_reducible refine x_bl ?_
  | with_reducible refine x_and ?_
  | with_reducible refine x_or ?_
  | with_reducible refine x_not ?_
  | with_reducible refine x_andV ?_
  | with_reducible refine x_orV ?_
  | with_reducible refine x_notV ?_
  | with_reducible refine x_ife ?_
  | with_reducible refine x_isN ?_
  | with_reducible refine x_notN ?_
  | with_reducible refine x_nil ?_
  | with_reducible refine x_cons ?_
  | with_reducible refine x_cb ?_
  | with_reducible refine x_call ?_
  | ((with_reducible refine' x_callL ?hv ?_); (case hv => exact rfl))
  | with_reducible refine x_gname ?_
  | with_reducible refine x_I0 ?_
  | ((with_reducible refine' x_eq ?hv ?_); (case hv => exact rfl))
  | ((with_reducible refine' x_ne ?hv ?_); (case hv => exact rfl))
  | with_reducible refine x_tupG ?_
  | with_reducible refine x_lstG ?_
  | with_reducible refine x_lc ?_
  | (with_reducible refine x_U ?_)
  | ((with_reducible refine' ite_T ?hv ?_); (case hv => exact rfl))
  | ((with_reducible refine' ite_F ?hv ?_); (case hv => exact rfl))
  | with_reducible refine x_for ?_
  | with_reducible refine x_iEnum ?_
  | with_reducible refine x_iList ?_
  | with_reducible refine x_iTup ?_
  | with_reducible refine x_gcons ?_
  | with_reducible refine x_gnil ?_
  | with_reducible refine x_bm ?_
  | with_reducible refine x_fldG ?_
  | with_reducible refine x_meth ?_
  | with_reducible refine x_sl ?_
  | with_reducible refine x_nopart ?_
  | with_reducible refine x_part ?_
  | with_reducible refine x_int ?_
  | with_reducible refine x_yes ?_
  | with_reducible refine x_isNG ?_
  | with_reducible refine x_notNG ?_
  | fail "no step")
local macro_rules | `(tactic| walk_at "g2") => `(tactic| first
  | with_reducible refine x_sfld ?_
  | with_reducible refine x_make ?_
  | with_reducible refine x_dnew ?_
  | with_reducible refine x_lcT ?_
  | with_reducible refine x_lcS ?_
  | with_reducible refine x_disp ?_
  | with_reducible refine x_pcons ?_
  | with_reducible refine x_pnil ?_
  | with_reducible refine x_dnewK ?_
  | with_reducible refine x_dput ?_
  | with_reducible refine x_gsub ?_
  | with_reducible refine x_dget2 ?_
  | with_reducible refine x_litems ?_
  | with_reducible refine x_bmX ?_
  | with_reducible refine x_ckw ?_
  | walk_at "g")
local macro_rules | `(tactic| walk_at "go") => `(tactic| repeat' walk_at "g2")

section
variable {P : Program} {w : World} {K : PySem.W.Frag} {mg : Str → Option Value} {base : Heap}
theorem shF_put (d d' : Addr) : putF "held" (.ref d') (shF d) = shF d' := by rfl
theorem shF_len (d : Addr) : (shF d).length < 1000 := by show 1 < 1000; decide
def szH (hs : Hs) : Bool := hs.all fun h => decide (h.2.length ≤ 1500)
def sp_Sheet_hold (K : PySem.W.Frag) : Sp := fun vs H Q _ => ∃ G p d kvs d2 kvs2 hs, vs = [.ref p, .ref d2] ∧ Ex G H ∧ MuS K G H p d kvs ∧ Mu G H d2 (.dK kvs2) ∧ HD K G kvs2 hs ∧ kn hs ∧ hs.length ≤ 100 ∧ szH hs = true ∧
  ∀ G1 H1 d' kvs', Stm [p] G H G1 H1 → MuS K G1 H1 p d' kvs' → HD K G1 kvs' (hs.filter nonE) → (hs.all nonE = true → kvs' = kvs2) → H d' = none → Q .non H1
theorem sc_Sheet_hold : FnScope ["self", "held", "value", "area"] ["self", "held"] (defScope s_Sheet_hold) := ⟨rfl, rfl, rfl, by decide +kernel, rfl, by decide +kernel, by decide +kernel⟩
theorem ok_Sheet_hold (T : TX K mg) : FnOk P w K mg base CX0 3 (f_Sheet_hold K) (fdO K (f_Sheet_hold K)) ["self", "held"] (sp_Sheet_hold K) := by
  refine (F_Sheet_hold T).ok sc_Sheet_hold (fun vs H Q E h => ?_) (fun cdv A outer s H vs Q E hr h => ?_)
  · obtain ⟨_, _, _, _, _, _, _, rfl, _⟩ := h; rfl
  · obtain ⟨G0, p, d, kvs, d2, kvs2, hs, rfl, e, ms, m2, hD, hk, hz, hsz, k⟩ := h
    have hu : (A.deeper (envOfC (Str.ofString "Sheet.hold") (defScope s_Sheet_hold) s.heap.objs.size (f_Sheet_hold K) cdv)).units + 1 < cLine := by have := hr.un; omega
    refine ⟨_, PSs.nox (pss_cons (ps_fld (pv 0) pe_dnewK (by rfl))
      (pss_one (ps_lock (ps_for PassesOwn.never rfl (pi_items (pv 1)) (pg_tup (by rfl) (pgs_cons (pg_name (i := 2) sc_Sheet_hold.nd rfl (by first | exact Or.inl rfl | exact Or.inr rfl)) (pgs_cons (pg_name (i := 3) sc_Sheet_hold.nd rfl (by first | exact Or.inl rfl | exact Or.inr rfl)) pgs_nil))) (pss_one (ps_if (pt_cmpR op_gt (pe_callB (lenO (ok_Area___len__ T) (hr.mono (by decide)) (m_Area___len__ T) (b_Area___len__ T) pass0) (by rfl) (z_len T) PySem.boot_len (pa_cons (pv 3) pa_nil)) pe_int (nomark _)) (pss_one (ps_dput hu (fldK (K := K) (pv 0) (by rfl) (by rfl)) (pv 2) (pv 3) rfl)) pss_nil)))))), ?_⟩
    walk_at "go"
    refine dnewK e fun d' H1 hd' s1 m1 => ?_
    walk_at "go"
    obtain ⟨dx, mp0⟩ := ms.o
    have mp1 := s1.mu mp0
    have m21 := s1.mu m2
    have hpd : p ≠ d' := fun c => by have q := mp0.1; rw [c, hd'] at q; cases q
    have hpd2 : p ≠ d2 := fun c => by have q := mp0.1; rw [c, m2.1] at q; cases q
    have hdd : d2 ≠ d' := fun c => by have q := m2.1; rw [c, hd'] at q; cases q
    refine setF mp1.1 (k_Sheet T) (n_Sheet_held T) (shF_len d) ?_
    rw [shF_put]
    obtain ⟨s2, mp2⟩ := chgF (o' := .ins (He.ga K "Sheet") dx (shF d')) mp1 s1.i
    have m12 := s2.m _ _ (fun q => hpd (List.mem_singleton.mp q).symm) m1
    have m22 := s2.m _ _ (fun q => hpd2 (List.mem_singleton.mp q).symm) m21
    have hlk : kvs2.length = hs.length := hD.len
    generalize upd H1 p (.ins (He.ga K "Sheet") dx (shF d')) = H2 at s2 mp2 m12 m22 ⊢
    walk_at "go"
    refine forI (K := K) (d := d2) (kvs := kvs2) (hs := hs) (fun H' R _ h => ⟨_, rfl, h⟩) m22 hD s2.i (fun od i σ' G' H' => ∃ o2 o3 kvs', σ' = [some (.ref p), some (.ref d2), o2, o3] ∧ Stm [d2, d'] G0 H2 G' H' ∧ Mu G' H' d2 (.frz od (.dK kvs2)) ∧ Mu G' H' p (.ins (He.ga K "Sheet") dx (shF d')) ∧ Mu G' H' d' (.dK kvs') ∧ HD K G' kvs' ((hs.take i).filter nonE) ∧ (hs.all nonE = true → kvs' = kvs2.take i))
      (fun od H3 s3 m3 => ⟨none, none, [], rfl, s3.sub (by simp), m3, s3.m _ _ (fun q => hpd2 (List.mem_singleton.mp q)) mp2, s3.m _ _ (fun q => hdd (List.mem_singleton.mp q).symm) m12, .nil, fun _ => rfl⟩)
      (fun od i σ' G' H' _ ⟨_, _, _, _, s, m, _⟩ => ⟨s.g, s.i, m⟩) ?_ ?_
    · rintro od i x w' Tt σ1 G3 H3 G4 H4 D2 hi hki ⟨o2, o3, kvs', rfl, sA, m2A, mpA, m1A, hA, hB⟩ s4 hw hT hnx
      refine x_gtup (s4.i _ _ hT) rfl ?_
      walk_at "go"
      have hw' := hw
      obtain ⟨pa, dxa, qa, rfl, hpa, hqa⟩ := hw'
      refine ⟨pa, dxa, arF qa, rfl, s4.i _ _ hpa, ?_⟩
      have hxl : x.2.length ≤ 1500 := of_decide_eq_true (List.all_eq_true.mp hsz x (List.mem_of_getElem? hi))
      refine ⟨G4, _, x.2, rfl, s4.i, hw, x.2.length, rfl, by omega, ?_⟩
      walk_at "go"
      have m1B := s4.mu m1A
      have mpB := s4.mu mpA
      have m2B := s4.mu m2A
      have hkl : kvs'.length < sizeLine := by
        have q1 := hA.len
        have q2 := List.length_filter_le nonE (hs.take i)
        have q3 : (hs.take i).length ≤ hs.length := by rw [List.length_take]; exact Nat.min_le_right _ _
        have q4 : 101 < sizeLine := by decide
        omega
      refine ite_b2 (fun c1 => ?_) (fun c1 => ?_)
      · have hne : nonE x = true := by
          have c2 := of_decide_eq_true c1
          unfold nonE
          cases hx2 : x.2 with
          | nil => rw [hx2] at c2; simp at c2
          | cons a l => rfl
        walk_at "go"
        refine fldG mpB.1 (k_Sheet T) (n_Sheet_held T) (shF_held d') ?_
        walk_at "go"
        refine putG m1B s4.i hkl fun H5 s5 m5 => ?_
        have hfr : putK kvs' (Sum.inr x.1) (.ref pa) = kvs' ++ [(Sum.inr x.1, .ref pa)] := hA.fresh (fun y hy => kn_take hk hi y (List.mem_filter.mp hy).1) _
        rw [hfr] at m5
        refine hnx _ G4 H5 ⟨_, _, _, rfl, (sA.trans (St.up s4)).trans (s5.sub (by simp)), s5.m _ _ (fun q => hdd (List.mem_singleton.mp q)) m2B, s5.m _ _ (fun q => hpd (List.mem_singleton.mp q)) mpB, m5, ?_, ?_⟩
        · rw [take_more hi, List.filter_append]
          have e1 : List.filter nonE [x] = [x] := by simp [hne]
          rw [e1]
          exact paired_snoc ⟨rfl, hw⟩ (hA.mono s4.g)
        · intro ha
          rw [hB ha, take_more hki]
      · have hne : nonE x = false := by
          have c2 := of_decide_eq_false c1
          unfold nonE
          cases hx2 : x.2 with
          | nil => rfl
          | cons a l => rw [hx2] at c2; simp at c2
        walk_at "go"
        refine hnx _ G4 H4 ⟨_, _, _, rfl, sA.trans (St.up s4), m2B, mpB, m1B, ?_, ?_⟩
        · rw [take_more hi, List.filter_append]
          have e1 : List.filter nonE [x] = [] := by simp [hne]
          rw [e1, List.append_nil]
          exact hA.mono s4.g
        · intro ha
          have := List.all_eq_true.mp ha x (List.mem_of_getElem? hi)
          rw [hne] at this; cases this
    · rintro od σ' G' H' H5 ⟨o2, o3, kvs', rfl, sA, m2A, mpA, m1A, hA, hB⟩ s5 m5
      rw [List.take_length] at hA
      have mpB := s5.m _ _ (fun q => hpd2 (List.mem_singleton.mp q)) mpA
      have m1B := s5.m _ _ (fun q => hdd (List.mem_singleton.mp q).symm) m1A
      have s6 : Stm [d'] G0 H2 G' H5 := Stm.closeA (sA.trans (s5.sub (by simp))) m22 m5
      have s7 : Stm [d', p] G0 H G' H5 := (St.up s1).trans ((s2.sub (by simp)).trans (s6.sub (by simp)))
      have s8 : Stm [p] G0 H G' H5 := ⟨s7.g, s7.i, fun q o n h => s7.m q o (fun z => by
        rcases List.mem_cons.mp z with rfl | z
        · have h1 := h.1; rw [hd'] at h1; cases h1
        · exact n z) h⟩
      refine k G' H5 d' kvs' s8 ⟨⟨dx, mpB⟩, m1B⟩ hA (fun ha => ?_) hd'
      rw [hB ha, ← hlk, List.take_length]
end
end GT

/-! ## K62M -/
set_option Elab.async false
set_option linter.all false
set_option maxRecDepth 100000
set_option maxHeartbeats 400000
namespace GT
open PySem PySem.Spec PyProof.Rows L2 G
local macro_rules | `(tactic| walk_at "ex") => `(tactic| first | exact Ex.refl _ | assumption | exact Stm.g (by assumption) | (refine Ex.trans ?_ (Stm.g (by assumption)); walk_at "ex"))
local macro_rules | `(tactic| walk_at "st") => `(tactic| first | exact Stm.refl (by assumption) | assumption | (refine Stm.trans ?_ (by assumption); walk_at "st"))
local macro_rules | `(tactic| walk_at "i") => `(tactic| first | assumption | exact Stm.i (by assumption))
local macro_rules | `(tactic| walk_at "fact") => `(tactic| first | rfl | exact (rfl : V.non = optV none) | exact (rfl : V.int _ = optV (some _)) | assumption)
local macro_rules | `(tactic| walk_at "g") => `(tactic| first
  | with_reducible refine x_seq ?_
  | with_reducible refine x_next ?_
  | with_reducible refine x_asg ?_
  | with_reducible refine x_ret ?_
  | with_reducible refine x_retN ?_
  | with_reducible refine x_drop ?_
  | with_reducible refine x_ifs ?_
  | ((with_reducible refine' x_var ?hv ?_); (case hv => exact rfl))
  | with_reducible refine x_c ?_
  | with_reducible refine x_op ?_
  | with_reducible refine x_un ?_
  | with_reducible refine x_test ?_
  | with_reducible refine x_B ?_
  | with_reducible refine x_bl ?_
  | with_reducible refine x_and ?_
  | with_reducible refine x_or ?_
  | with_reducible refine x_not ?_
  | with_reducible refine x_andV ?_
  | with_reducible refine x_orV ?_
  | with_reducible refine x_notV ?_
  | with_reducible refine x_ife ?_
  | with_reducible refine x_isN ?_
  | with_reducible refine x_notN ?_
  | with_reducible refine x_nil ?_
  | with_reducible refine x_cons ?_
  | with_reducible refine x_cb ?_
  | with_reducible refine x_call ?_
  | ((with_reducible refine' x_callL ?hv ?_); (case hv => exact rfl))
  | with_reducible refine x_gname ?_
  | with_reducible refine x_I0 ?_
  | ((with_reducible refine' x_eq ?hv ?_); (case hv => exact rfl))
  | ((with_reducible refine' x_ne ?hv ?_); (case hv => exact rfl))
  | with_reducible refine x_tupG ?_
  | with_reducible refine x_lstG ?_
  | with_reducible refine x_lc ?_
  | (with_reducible refine x_U ?_)
  | ((with_reducible refine' ite_T ?hv ?_); (case hv => exact rfl))
  | ((with_reducible refine' ite_F ?hv ?_); (case hv => exact rfl))
  | with_reducible refine x_for ?_
  | with_reducible refine x_iEnum ?_
  | with_reducible refine x_iList ?_
  | with_reducible refine x_iTup ?_
  | with_reducible refine x_gcons ?_
  | with_reducible refine x_gnil ?_
  | with_reducible refine x_bm ?_
  | with_reducible refine x_fldG ?_
  | with_reducible refine x_meth ?_
  | with_reducible refine x_sl ?_
  | with_reducible refine x_nopart ?_
  | with_reducible refine x_part ?_
  | with_reducible refine x_int ?_
  | with_reducible refine x_yes ?_
  | with_reducible refine x_isNG ?_
  | with_reducible refine x_notNG ?_
  | fail "no step")
local macro_rules | `(tactic| walk_at "g2") => `(tactic| first
  | with_reducible refine x_sfld ?_
  | with_reducible refine x_make ?_
  | with_reducible refine x_dnew ?_
  | with_reducible refine x_lcT ?_
  | with_reducible refine x_lcS ?_
  | with_reducible refine x_disp ?_
  | with_reducible refine x_pcons ?_
  | with_reducible refine x_pnil ?_
  | with_reducible refine x_dnewK ?_
  | with_reducible refine x_dput ?_
  | with_reducible refine x_gsub ?_
  | with_reducible refine x_dget2 ?_
  | with_reducible refine x_litems ?_
  | with_reducible refine x_bmX ?_
  | with_reducible refine x_ckw ?_
  | walk_at "g")
local macro_rules | `(tactic| walk_at "go") => `(tactic| repeat' walk_at "g2")

section
variable {P : Program} {w : World} {K : PySem.W.Frag} {mg : Str → Option Value} {base : Heap}
/-- a thing that may be an area -/
def AreaT (K : PySem.W.Frag) (G : Hp) (x : V) (o : Option (List Blk)) : Prop := (o = none ∧ ∃ t, Od K G x t ∧ PySem.W.kitOne K t (.ref (He.ga K "Area")) = some false) ∨ (∃ a, o = some a ∧ IsAr K G x a)
def cutH (hs : Hs) (a : List Blk) : Hs := hs.map fun h => (h.1, byA h.2 a fun a b => a && !b)
def gotH (hs : Hs) (a : List Blk) (z : Str) : List Blk := (getH (cutH hs a) z).getD []
def preH (hs : Hs) (a : List Blk) (z : Str) : Hs := putH (cutH hs a) z (byA (gotH hs a z) a fun a b => a || b)
def fillH (hs : Hs) (a : List Blk) (z : Str) : Hs := (preH hs a z).filter nonE
def okFill (hs : Hs) (a : List Blk) (z : Str) : Bool := (hs.all fun h => okBy h.2 a fun a b => a && !b) && okBy (gotH hs a z) a (fun a b => a || b) && szH (preH hs a z) && decide (hs.length ≤ 50)
def sp_Sheet_fill (K : PySem.W.Frag) : Sp := fun vs H Q E => ∃ G p d kvs hs x y o b, vs = [.ref p, x, y] ∧ Ex G H ∧ MuS K G H p d kvs ∧ HD K G kvs hs ∧ kn hs ∧ AreaT K G x o ∧ ValT K G y b ∧
  (o = none → ∀ G1 H1, St G H G1 H1 → E (.ref (He.ga K "NoArea")) none H1) ∧
  (∀ a, o = some a → b = false → ∀ G1 H1, St G H G1 H1 → E (.ref (He.ga K "NoValue")) none H1) ∧
  (∀ a z, o = some a → y = .str z → b = true → okFill hs a z = true ∧ ∀ G1 H1 d' kvs', Stm [p] G H G1 H1 → MuS K G1 H1 p d' kvs' → HD K G1 kvs' (fillH hs a z) → H d' = none → Q .non H1)
theorem sc_Sheet_fill : FnScope ["self", "area", "value", "held", "one", "place"] ["self", "area", "value"] (defScope s_Sheet_fill) := ⟨rfl, rfl, rfl, by decide +kernel, rfl, by decide +kernel, by decide +kernel⟩
theorem ok_Sheet_fill (T : TX K mg) : FnOk P w K mg base (L2N.CX P w) 11 (f_Sheet_fill K) (fdO K (f_Sheet_fill K)) ["self", "area", "value"] (sp_Sheet_fill K) := by
  refine (F_Sheet_fill T).ok sc_Sheet_fill (fun vs H Q E h => ?_) (fun cdv A outer s H vs Q E hr h => ?_)
  · obtain ⟨_, _, _, _, _, _, _, _, _, rfl, _⟩ := h; rfl
  · obtain ⟨G0, p, d, kvs, hs, x, y, o, b, rfl, e, ms, hD, hk, hx, hy, k1, k2, k3⟩ := h
    have hu : (A.deeper (envOfC (Str.ofString "Sheet.fill") (defScope s_Sheet_fill) s.heap.objs.size (f_Sheet_fill K) cdv)).units + 1 < cLine := by have := hr.un; omega
    refine ⟨_, (pss_cons (ps_expr (pe_call (ok_checked_area T) (hr.mono (by decide)) (by rfl) (g_checked_area T) (F_checked_area T).kp (b_checked_area T) .nil (passE (L2N.takes_of rfl rfl rfl rfl)) (pa_cons (pv 1) pa_nil)))
      (pss_cons (ps_expr (pe_call (ok_check_value T) (hr.mono (by decide)) (by rfl) (g_check_value T) (F_check_value T).kp (b_check_value T) .nil (passE (L2N.takes_of rfl rfl rfl rfl)) (pa_cons (pv 2) pa_nil)))
      (pss_cons (ps_set (i := 3) sc_Sheet_fill.nd rfl (by first | exact Or.inl rfl | exact Or.inr rfl) pe_dnewK)
      (pss_cons (ps_lock (ps_for (passes_of rfl) rfl (pi_items (fldK (K := K) (pv 0) (by rfl) (by rfl))) (pg_tup (by rfl) (pgs_cons (pg_name (i := 4) sc_Sheet_fill.nd rfl (by first | exact Or.inl rfl | exact Or.inr rfl)) (pgs_cons (pg_name (i := 5) sc_Sheet_fill.nd rfl (by first | exact Or.inl rfl | exact Or.inr rfl)) pgs_nil))) (pss_one (ps_dput hu (pv 3) (pv 4) (pe_meth (pv 5) (k_Area T) (m_Area_without T) (ok_Area_without T) (hr.mono (by decide)) (b_Area_without T) .nil pass0 (pa_cons (pv 1) pa_nil)) rfl))))
      (pss_cons (ps_dput hu (pv 3) (pv 2) (pe_meth (pe_dget2 hu (pv 3) (pv 2) (pe_make0 (mk_Area T) (ok_Area___init__ T) (hr.mono (by decide)) (by rfl) (g_Area T) (b_Area___init___1 T).choose_spec.2 (b_Area___init___1 T).choose_spec.1 pass0) (by constructor <;> rfl)) (k_Area T) (m_Area_joined T) (ok_Area_joined T) (hr.mono (by decide)) (b_Area_joined T) .nil pass0 (pa_cons (pv 1) pa_nil)) rfl)
      (pss_one (ps_expr (pe_meth (pv 0) (k_Sheet T) (m_Sheet_hold T) (ok_Sheet_hold T) (hr.mono (by decide)) (b_Sheet_hold T) .nil pass0 (pa_cons (pv 3) pa_nil))))))))), ?_⟩
    walk_at "go"
    rcases hx with ⟨rfl, t, ty, kt⟩ | ⟨a, rfl, ha⟩
    · exact ⟨_, t, false, rfl, ty H e, kt, (fun z => by cases z), fun _ => k1 rfl _ _ (Stm.refl e)⟩
    refine ⟨_, _, true, rfl, IsAr.ty T ha e, i_Area_Area T, fun _ => ?_, fun z => nomatch z⟩
    walk_at "go"
    refine ⟨G0, y, b, rfl, e, hy, fun hb G1 H1 s1 => ?_, fun hb G1 H1 s1 => k2 a rfl hb _ _ s1⟩
    rcases hy with ⟨rfl, _⟩ | ⟨z, rfl, hz, _⟩
    · cases hb
    obtain ⟨okf, k⟩ := k3 a z rfl rfl hb
    unfold okFill at okf
    rw [Bool.and_eq_true, Bool.and_eq_true, Bool.and_eq_true] at okf
    obtain ⟨⟨⟨f1, f2⟩, f3⟩, f4⟩ := okf
    have f4 := of_decide_eq_true f4
    walk_at "go"
    refine dnewK s1.i fun d2 H2 hd2 s2 m2 => ?_
    walk_at "go"
    have ms2 := (ms.st s1).st s2
    have hD1 := hD.mono s1.g
    have ha1 := IsAr.mono _ _ _ _ s1.g ha
    have hlk : kvs.length = hs.length := hD.len
    have hdd : d ≠ d2 := fun c => by have q := ((ms.st s1).d).1; rw [c, hd2] at q; cases q
    have hpd2 : p ≠ d2 := fun c => by obtain ⟨dx, q⟩ := (ms.st s1).o; have q := q.1; rw [c, hd2] at q; cases q
    have hpd := ms.ne
    have hcl : (cutH hs a).length = hs.length := by unfold cutH; rw [List.length_map]
    have hck : kn (cutH hs a) := mapH_kn (f := fun c => byA c a fun a b => a && !b) hk
    refine forI (K := K) (d := d) (kvs := kvs) (hs := hs) (fun H' R hH h => ?_) ms2.d hD1 s2.i (fun od i σ' G' H' => ∃ o4 o5 kvs', σ' = [some (.ref p), some x, some (.str z), some (.ref d2), o4, o5] ∧ Stm [d, d2] G1 H2 G' H' ∧ Mu G' H' d (.frz od (.dK kvs)) ∧ Mu G' H' d2 (.dK kvs') ∧ HD K G' kvs' ((cutH hs a).take i))
      (fun od H3 s3 m3 => ⟨none, none, [], rfl, s3.sub (by simp), m3, s3.m _ _ (fun q => hdd (List.mem_singleton.mp q).symm) m2, .nil⟩)
      (fun od i σ' G' H' _ ⟨_, _, _, _, s, m, _⟩ => ⟨s.g, s.i, m⟩) ?_ ?_
    · obtain ⟨dx, q⟩ := ms2.o
      walk_at "go"
      exact fldG (by rw [hH p hpd]; exact q.1) (k_Sheet T) (n_Sheet_held T) (shF_held d) h
    · rintro od i v w' Tt σ1 G3 H3 G4 H4 D2 hi hki ⟨o4, o5, kvs', rfl, sA, mdA, m2A, hA⟩ s4 hw hT hnx
      refine x_gtup (s4.i _ _ hT) rfl ?_
      walk_at "go"
      refine mA hw s4.i (by decide +kernel) ?_
      walk_at "go"
      have okv : okBy v.2 a (fun a b => a && !b) = true := List.all_eq_true.mp f1 v (List.mem_of_getElem? hi)
      refine ⟨G4, _, _, v.2, a, rfl, s4.i, hw, IsAr.mono _ _ _ _ (sA.trans (St.up s4)).g ha1, okv, fun G5 H5 r5 s5 h5 => ?_⟩
      have h5' := h5
      obtain ⟨pr, dxr, qr, rfl, _, _⟩ := h5'
      walk_at "go"
      have m2B := s5.mu (s4.mu m2A)
      have hci : (cutH hs a)[i]? = some (v.1, byA v.2 a fun a b => a && !b) := by
        unfold cutH; rw [List.getElem?_map, hi]; rfl
      have hkl : kvs'.length < sizeLine := by
        have q1 := hA.len
        have q3 : ((cutH hs a).take i).length ≤ (cutH hs a).length := by rw [List.length_take]; exact Nat.min_le_right _ _
        have q4 : 101 < sizeLine := by decide
        omega
      refine putG m2B s5.i hkl fun H6 s6 m6 => ?_
      have hfr : putK kvs' (Sum.inr v.1) (.ref pr) = kvs' ++ [(Sum.inr v.1, .ref pr)] := hA.fresh (fun y hy => kn_take hck hci y hy) _
      rw [hfr] at m6
      refine hnx _ G5 H6 ⟨_, _, _, rfl, (sA.trans (St.up (s4.trans s5))).trans (s6.sub (by simp)), s6.m _ _ (fun q => hdd (List.mem_singleton.mp q)) (s5.mu (s4.mu mdA)), m6, ?_⟩
      rw [take_more hci]
      exact HD.snoc (hA.mono (s4.trans s5).g) h5
    · rintro od σ' G3 H3 H4 ⟨o4, o5, kvs', rfl, sA, mdA, m2A, hA⟩ s4 m4
      rw [← hcl, List.take_length] at hA
      have m2B := s4.m _ _ (fun q => hdd (List.mem_singleton.mp q).symm) m2A
      have s5 : Stm [d2] G1 H2 G3 H4 := Stm.closeA (sA.trans (s4.sub (by simp))) ms2.d m4
      have s6 : St G0 H G3 H4 := s1.trans (Stm.fresh s2 s5 fun q hq => by rw [List.mem_singleton.mp hq]; exact hd2)
      have ha3 := IsAr.mono _ _ _ _ s6.g ha
      walk_at "go"
      refine ⟨d2, rfl, .inl ⟨kvs', .inl m2B.1⟩, ?_⟩
      walk_at "go"
      refine mkArea (v := .non) rfl (.inl ⟨rfl, rfl⟩) okN_nil s6.i fun pn G5 H5 s7 hn => ?_
      rw [norm_nil] at hn
      have m2C := s7.mu m2B
      refine ⟨_, DGet.k (k := Sum.inr z) m2C.1, ?_⟩
      have hgot : IsAr K G5 ((valV kvs' (Sum.inr z)).getD (.ref pn)) (gotH hs a z) := by
        unfold gotH
        rcases (hA.mono s7.g).val z with ⟨v, c, e1, e2, e3⟩ | ⟨e1, e2⟩
        · rw [e1, e2]; exact e3
        · rw [e1, e2]; exact hn
      refine mA hgot s7.i (by decide +kernel) ?_
      walk_at "go"
      refine ⟨G5, _, _, _, a, rfl, s7.i, hgot, IsAr.mono _ _ _ _ s7.g ha3, f2, fun G6 H6 r6 s8 h6 => ?_⟩
      have h6' := h6
      obtain ⟨pr, dxr, qr, rfl, _, _⟩ := h6'
      walk_at "go"
      have m2D := s8.mu m2C
      have hkl : kvs'.length < sizeLine := by
        have q1 := hA.len
        have q4 : 101 < sizeLine := by decide
        omega
      refine putG m2D s8.i hkl fun H7 s9 m9 => ?_
      walk_at "go"
      have s10 : St G0 H G6 H7 := Stm.fresh (Stm.refl e) ((St.up ((s6.trans s7).trans s8)).trans s9) fun q hq => by rw [List.mem_singleton.mp hq]; exact s1.none hd2 (fun z => nomatch z)
      have msE := ms.st s10
      refine mS msE (by decide +kernel) ?_
      walk_at "go"
      have hP : HD K G6 (putK kvs' (Sum.inr z) (.ref pr)) (preH hs a z) := ((hA.mono s7.g).mono s8.g).put h6
      have hpl : (preH hs a z).length ≤ 100 := by
        have := putH_len (cutH hs a) z (byA (gotH hs a z) a fun a b => a || b)
        unfold preH; omega
      refine ⟨G6, p, d, kvs, d2, _, preH hs a z, rfl, s10.i, msE, m9, hP, putH_kn hck, hpl, f3, fun G8 H8 d' kvs8 s11 ms8 hD8 _ hd' => ?_⟩
      walk_at "go"
      exact k G8 H8 d' kvs8 ((St.up s10).trans s11) ms8 hD8 (s10.none hd' fun z => nomatch z)
end
end GT

/-! ## K62N -/
set_option Elab.async false
set_option linter.all false
set_option maxRecDepth 100000
set_option maxHeartbeats 400000
namespace GT
open PySem PySem.Spec PyProof.Rows L2 G
local macro_rules | `(tactic| walk_at "ex") => `(tactic| first | exact Ex.refl _ | assumption | exact Stm.g (by assumption) | (refine Ex.trans ?_ (Stm.g (by assumption)); walk_at "ex"))
local macro_rules | `(tactic| walk_at "st") => `(tactic| first | exact Stm.refl (by assumption) | assumption | (refine Stm.trans ?_ (by assumption); walk_at "st"))
local macro_rules | `(tactic| walk_at "i") => `(tactic| first | assumption | exact Stm.i (by assumption))
local macro_rules | `(tactic| walk_at "fact") => `(tactic| first | rfl | exact (rfl : V.non = optV none) | exact (rfl : V.int _ = optV (some _)) | assumption)
local macro_rules | `(tactic| walk_at "g") => `(tactic| first
  | with_reducible refine x_seq ?_
  | with_reducible refine x_next ?_
  | with_reducible refine x_asg ?_
  | with_reducible refine x_ret ?_
  | with_reducible refine x_retN ?_
  | with_reducible refine x_drop ?_
  | with_reducible refine x_ifs ?_
  | ((with_reducible refine' x_var ?hv ?_); (case hv => exact rfl))
  | with_reducible refine x_c ?_
  | with_reducible refine x_op ?_
  | with_reducible refine x_un ?_
  | with_reducible refine x_test ?_
  | with_reducible refine x_B ?_
  | with_reducible refine x_bl ?_
  | with_reducible refine x_and ?_
  | with_reducible refine x_or ?_
  | with_reducible refine x_not ?_
  | with_reducible refine x_andV ?_
  | with_reducible refine x_orV ?_
  | with_reducible refine x_notV ?_
  | with_reducible refine x_ife ?_
  | with_reducible refine x_isN ?_
  | with_reducible refine x_notN ?_
  | with_reducible refine x_nil ?_
  | with_reducible refine x_cons ?_
  | with_reducible refine x_cb ?_
  | with_reducible refine x_call ?_
  | ((with_reducible refine' x_callL ?hv ?_); (case hv => exact rfl))
  | with_reducible refine x_gname ?_
  | with_reducible refine x_I0 ?_
  | ((with_reducible refine' x_eq ?hv ?_); (case hv => exact rfl))
  | ((with_reducible refine' x_ne ?hv ?_); (case hv => exact rfl))
  | with_reducible refine x_tupG ?_
  | with_reducible refine x_lstG ?_
  | with_reducible refine x_lc ?_
  | (with_reducible refine x_U ?_)
  | ((with_reducible refine' ite_T ?hv ?_); (case hv => exact rfl))
  | ((with_reducible refine' ite_F ?hv ?_); (case hv => exact rfl))
  | with_reducible refine x_for ?_
  | with_reducible refine x_iEnum ?_
  | with_reducible refine x_iList ?_
  | with_reducible refine x_iTup ?_
  | with_reducible refine x_gcons ?_
  | with_reducible refine x_gnil ?_
  | with_reducible refine x_bm ?_
  | with_reducible refine x_fldG ?_
  | with_reducible refine x_meth ?_
  | with_reducible refine x_sl ?_
  | with_reducible refine x_nopart ?_
  | with_reducible refine x_part ?_
  | with_reducible refine x_int ?_
  | with_reducible refine x_yes ?_
  | with_reducible refine x_isNG ?_
  | with_reducible refine x_notNG ?_
  | fail "no step")
local macro_rules | `(tactic| walk_at "g2") => `(tactic| first
  | with_reducible refine x_sfld ?_
  | with_reducible refine x_make ?_
  | with_reducible refine x_dnew ?_
  | with_reducible refine x_lcT ?_
  | with_reducible refine x_lcS ?_
  | with_reducible refine x_disp ?_
  | with_reducible refine x_pcons ?_
  | with_reducible refine x_pnil ?_
  | with_reducible refine x_dnewK ?_
  | with_reducible refine x_dput ?_
  | with_reducible refine x_gsub ?_
  | with_reducible refine x_dget2 ?_
  | with_reducible refine x_litems ?_
  | with_reducible refine x_bmX ?_
  | with_reducible refine x_ckw ?_
  | walk_at "g")
local macro_rules | `(tactic| walk_at "go") => `(tactic| repeat' walk_at "g2")

section
variable {P : Program} {w : World} {K : PySem.W.Frag} {mg : Str → Option Value} {base : Heap}
def valH (hs : Hs) (r k : Int) : List Str := (hs.filter fun h => h.2.any fun b => hasB b r k).map (·.1)
def sp_Sheet_value (K : PySem.W.Frag) : Sp := fun vs H Q E => ∃ G p d kvs hs x b, vs = [.ref p, x] ∧ Ex G H ∧ MuS K G H p d kvs ∧ HD K G kvs hs ∧ hs.length ≤ 100 ∧ szH hs = true ∧ CellT K G x b ∧
  (b = false → ∀ G1 H1, St G H G1 H1 → E (.ref (He.ga K "NoCell")) none H1) ∧
  (b = true → ∃ c r k z, x = .ref c ∧ G c = some (.tup [.int r, .int k]) ∧ 1 ≤ r ∧ 1 ≤ k ∧ (valH hs r k).head? = some z ∧ ∀ G1 H1, St G H G1 H1 → Q (.str z) H1)
theorem sc_Sheet_value : FnScope ["self", "cell", "value", "area"] ["self", "cell"] (defScope s_Sheet_value) := ⟨rfl, rfl, rfl, by decide +kernel, rfl, by decide +kernel, by decide +kernel⟩
theorem ok_Sheet_value (T : TX K mg) : FnOk P w K mg base (L2N.CX P w) 7 (f_Sheet_value K) (fdO K (f_Sheet_value K)) ["self", "cell"] (sp_Sheet_value K) := by
  refine (F_Sheet_value T).ok sc_Sheet_value (fun vs H Q E h => ?_) (fun cdv A outer s H vs Q E hr h => ?_)
  · obtain ⟨_, _, _, _, _, _, _, rfl, _⟩ := h; rfl
  · obtain ⟨G0, p, d, kvs, hs, x, b, rfl, e, ms, hD, hz, hsz, hc, k1, k2⟩ := h
    have hz' : hs.length < sizeLine := Nat.lt_of_le_of_lt hz (by decide)
    refine ⟨_, (pss_cons (ps_expr (pe_call (ok_checked_cell T) (hr.mono (by decide)) (by rfl) (g_checked_cell T) (F_checked_cell T).kp (b_checked_cell T) .nil (passE (L2N.takes_of rfl rfl rfl rfl)) (pa_cons (pv 1) pa_nil)))
      (pss_one (ps_ret (pe_ix (ixLK (K := K) (by rfl)) (pe_lock (pe_lc (own := [("value", 2), ("area", 3)]) (g := gTup K 2 (gCons (gName 2) (gCons (gName 3) gNil))) (by rfl) sc_Sheet_value.nd (pi_items (fldK (K := K) (pv 0) (by rfl) (by rfl))) (blkOk_by (own := [("value", 2), ("area", 3)]) (N := ["self", "cell", "value", "area"]) (sc := defScope s_Sheet_value) (by decide +kernel)) (fun _ _ _ _ _ => (pg_tup (by rfl) (pgs_cons (pg_name (i := 2) sc_Sheet_value.nd rfl (by first | exact Or.inl rfl | exact Or.inr rfl)) (pgs_cons (pg_name (i := 3) sc_Sheet_value.nd rfl (by first | exact Or.inl rfl | exact Or.inr rfl)) pgs_nil)))) (fun _ _ _ _ _ => (pts_one (pt_val (pe_meth (pv 3) (k_Area T) (m_Area_has T) (ok_Area_has T) (hr.mono (by decide)) (b_Area_has T) .nil pass0 (pa_cons (pv 1) pa_nil))))) (fun _ _ _ _ _ => (pv 2)))) pe_int (fun _ _ => rfl))))), ?_⟩
    walk_at "go"
    refine ⟨G0, x, b, rfl, e, hc, fun hb G1 H1 s1 => ?_, fun hb G1 H1 s1 => k1 hb _ _ s1⟩
    obtain ⟨c, r, k, z, rfl, hcc, hr1, hk1, hv, q⟩ := k2 hb
    walk_at "go"
    have ms1 := ms.st s1
    refine lcI (S := IsS) IsS.mono (d := d) (fun H' R hH h => ?_) ms1.d (hD.mono s1.g) s1.i hz' (fun h => h.2.any fun b => hasB b r k) (fun h => h.1) (fun y w' Tt G2 H2 N0 N1 hy eg ei hw hT n0 n1 => ?_) fun G2 H2 D s2 hL => ?_
    · obtain ⟨dx, m⟩ := ms1.o
      walk_at "go"
      exact fldG (by rw [hH p ms1.ne]; exact m.1) (k_Sheet T) (n_Sheet_held T) (shF_held d) h
    · refine x_gtup (ei _ _ hT) rfl ?_
      walk_at "go"
      refine ⟨rfl, ?_⟩
      walk_at "go"
      refine mA hw ei (by decide +kernel) ?_
      walk_at "go"
      have hsl : y.2.length ≤ 1500 := of_decide_eq_true (List.all_eq_true.mp hsz y hy)
      refine ⟨G2, _, y.2, c, r, k, rfl, ei, hw, hsl, eg _ _ (s1.g _ _ hcc), hr1, hk1, fun G3 H3 s3 => ?_⟩
      refine ⟨_, rfl, ite_b2 (fun h1 => ?_) (fun h1 => ?_)⟩
      · walk_at "go"
        exact n1 _ _ _ s3 rfl h1
      · exact n0 _ _ s3 h1
    · walk_at "go"
      have hv' : (valH hs r k)[0]? = some z := by rw [← List.head?_eq_getElem?]; exact hv
      refine x_ixL (j := 0) hL s2.i hv' rfl fun w2 hw2 => ?_
      cases hw2
      walk_at "go"
      exact q _ _ (s1.trans s2)
def sp_Sheet_where (K : PySem.W.Frag) : Sp := fun vs H Q E => ∃ G p d kvs hs y b, vs = [.ref p, y] ∧ Ex G H ∧ MuS K G H p d kvs ∧ HD K G kvs hs ∧ ValT K G y b ∧
  (b = false → ∀ G1 H1, St G H G1 H1 → E (.ref (He.ga K "NoValue")) none H1) ∧
  (∀ z, y = .str z → b = true → ∀ G1 H1 r, St G H G1 H1 → IsAr K G1 r ((getH hs z).getD []) → Q r H1)
theorem sc_Sheet_where : FnScope ["self", "value"] ["self", "value"] (defScope s_Sheet_where) := ⟨rfl, rfl, rfl, by decide +kernel, rfl, by decide +kernel, by decide +kernel⟩
theorem ok_Sheet_where (T : TX K mg) : FnOk P w K mg base (L2N.CX P w) 9 (f_Sheet_where K) (fdO K (f_Sheet_where K)) ["self", "value"] (sp_Sheet_where K) := by
  refine (F_Sheet_where T).ok sc_Sheet_where (fun vs H Q E h => ?_) (fun cdv A outer s H vs Q E hr h => ?_)
  · obtain ⟨_, _, _, _, _, _, _, rfl, _⟩ := h; rfl
  · obtain ⟨G0, p, d, kvs, hs, y, b, rfl, e, ms, hD, hy, k1, k2⟩ := h
    have hu : (A.deeper (envOfC (Str.ofString "Sheet.where") (defScope s_Sheet_where) s.heap.objs.size (f_Sheet_where K) cdv)).units + 1 < cLine := by have := hr.un; omega
    refine ⟨_, (pss_cons (ps_expr (pe_call (ok_check_value T) (hr.mono (by decide)) (by rfl) (g_check_value T) (F_check_value T).kp (b_check_value T) .nil (passE (L2N.takes_of rfl rfl rfl rfl)) (pa_cons (pv 1) pa_nil)))
      (pss_one (ps_ret (pe_dget2 hu (fldK (K := K) (pv 0) (by rfl) (by rfl)) (pv 1) (pe_make0 (mk_Area T) (ok_Area___init__ T) (hr.mono (by decide)) (by rfl) (g_Area T) (b_Area___init___1 T).choose_spec.2 (b_Area___init___1 T).choose_spec.1 pass0) (by constructor <;> rfl))))), ?_⟩
    walk_at "go"
    refine ⟨G0, y, b, rfl, e, hy, fun hb G1 H1 s1 => ?_, fun hb G1 H1 s1 => k1 hb _ _ s1⟩
    rcases hy with ⟨rfl, _⟩ | ⟨z, rfl, hz, _⟩
    · cases hb
    walk_at "go"
    have ms1 := ms.st s1
    refine fS_held T ms1 ?_
    refine ⟨d, rfl, .inl ⟨kvs, .inl ms1.d.1⟩, ?_⟩
    walk_at "go"
    refine mkArea (v := .non) rfl (.inl ⟨rfl, rfl⟩) okN_nil s1.i fun pn G5 H5 s7 hn => ?_
    rw [norm_nil] at hn
    have ms5 := ms1.st s7
    refine ⟨_, DGet.k (k := Sum.inr z) ms5.d.1, ?_⟩
    refine k2 z rfl hb G5 H5 _ (s1.trans s7) ?_
    rcases ((hD.mono s1.g).mono s7.g).val z with ⟨v, c, e1, e2, e3⟩ | ⟨e1, e2⟩
    · rw [e1, e2]; exact e3
    · rw [e1, e2]; exact hn
def sp_Sheet_twin (K : PySem.W.Frag) : Sp := fun vs H Q _ => ∃ G p d kvs hs, vs = [.ref p] ∧ Ex G H ∧ MuS K G H p d kvs ∧ HD K G kvs hs ∧ kn hs ∧ hs.length ≤ 100 ∧ szH hs = true ∧ hs.all nonE = true ∧
  ∀ G1 H1 p' d', St G H G1 H1 → MuS K G1 H1 p' d' kvs → H p' = none → H d' = none → Q (.ref p') H1
theorem sc_Sheet_twin : FnScope ["self", "found"] ["self"] (defScope s_Sheet_twin) := ⟨rfl, rfl, rfl, by decide +kernel, rfl, by decide +kernel, by decide +kernel⟩
theorem ok_Sheet_twin (T : TX K mg) : FnOk P w K mg base CX0 11 (f_Sheet_twin K) (fdO K (f_Sheet_twin K)) ["self"] (sp_Sheet_twin K) := by
  refine (F_Sheet_twin T).ok sc_Sheet_twin (fun vs H Q E h => ?_) (fun cdv A outer s H vs Q E hr h => ?_)
  · obtain ⟨_, _, _, _, _, rfl, _⟩ := h; rfl
  · obtain ⟨G0, p, d, kvs, hs, rfl, e, ms, hD, hk, hz, hsz, hall, k⟩ := h
    refine ⟨_, PSs.nox (pss_cons (ps_set (i := 1) sc_Sheet_twin.nd rfl (by first | exact Or.inl rfl | exact Or.inr rfl) (pe_make0 (mk_Sheet T) (ok_Sheet___init__ T) (hr.mono (by decide)) (by rfl) (g_Sheet T) (b_Sheet___init__ T) .nil pass0))
      (pss_cons (ps_expr (pe_meth (pv 1) (k_Sheet T) (m_Sheet_hold T) (ok_Sheet_hold T) (hr.mono (by decide)) (b_Sheet_hold T) .nil pass0 (pa_cons (fldK (K := K) (pv 0) (by rfl) (by rfl)) pa_nil)))
      (pss_one (ps_ret (pv 1))))), ?_⟩
    walk_at "go"
    refine makeG e fun x dx H1 hx hd hn s1 m1 => ⟨G0, x, dx, rfl, s1.i, m1, fun G2 H2 d1 kvs1 s2 ms2 hD2 hd1 => ⟨rfl, ?_⟩⟩
    have s3 : St G0 H G2 H2 := Stm.fresh s1 s2 fun q hq => by rw [List.mem_singleton.mp hq]; exact hx
    walk_at "go"
    refine mS ms2 (by decide +kernel) ?_
    walk_at "go"
    have msB := ms.st s3
    refine fS_held T msB ?_
    walk_at "go"
    refine ⟨G2, x, d1, kvs1, d, kvs, hs, rfl, s3.i, ms2, msB.d, hD.mono s3.g, hk, hz, hsz, fun G4 H4 d4 kvs4 s4 ms4 hD4 hkv hd4 => ?_⟩
    walk_at "go"
    rw [hkv hall] at ms4
    exact k G4 H4 x d4 (Stm.fresh s3 s4 fun q hq => by rw [List.mem_singleton.mp hq]; exact hx) ms4 hx (s3.none hd4 fun z => nomatch z)
end
end GT

/-! ## K62O -/
set_option Elab.async false
set_option linter.all false
set_option maxRecDepth 100000
set_option maxHeartbeats 400000
namespace GT
open PySem PySem.Spec PyProof.Rows L2 G
local macro_rules | `(tactic| walk_at "ex") => `(tactic| first | exact Ex.refl _ | assumption | exact Stm.g (by assumption) | (refine Ex.trans ?_ (Stm.g (by assumption)); walk_at "ex"))
local macro_rules | `(tactic| walk_at "st") => `(tactic| first | exact Stm.refl (by assumption) | assumption | (refine Stm.trans ?_ (by assumption); walk_at "st"))
local macro_rules | `(tactic| walk_at "i") => `(tactic| first | assumption | exact Stm.i (by assumption))
local macro_rules | `(tactic| walk_at "fact") => `(tactic| first | rfl | exact (rfl : V.non = optV none) | exact (rfl : V.int _ = optV (some _)) | assumption)
local macro_rules | `(tactic| walk_at "g") => `(tactic| first
  | with_reducible refine x_seq ?_
  | with_reducible refine x_next ?_
  | with_reducible refine x_asg ?_
  | with_reducible refine x_ret ?_
  | with_reducible refine x_retN ?_
  | with_reducible refine x_drop ?_
  | with_reducible refine x_ifs ?_
  | ((with_reducible refine' x_var ?hv ?_); (case hv => exact rfl))
  | with_reducible refine x_c ?_
  | with_reducible refine x_op ?_
  | with_reducible refine x_un ?_
  | with_reducible refine x_test ?_
  | with_reducible refine x_B ?_
  | with_reducible refine x_bl ?_
  | with_reducible refine x_and ?_
  | with_reducible refine x_or ?_
  | with_reducible refine x_not ?_
  | with_reducible refine x_andV ?_
  | with_reducible refine x_orV ?_
  | with_reducible refine x_notV ?_
  | with_reducible refine x_ife ?_
  | with_reducible refine x_isN ?_
  | with_reducible refine x_notN ?_
  | with_reducible refine x_nil ?_
  | with_reducible refine x_cons ?_
  | with_reducible refine x_cb ?_
  | with_reducible refine x_call ?_
  | ((with_reducible refine' x_callL ?hv ?_); (case hv => exact rfl))
  | with_reducible refine x_gname ?_
  | with_reducible refine x_I0 ?_
  | ((with_reducible refine' x_eq ?hv ?_); (case hv => exact rfl))
  | ((with_reducible refine' x_ne ?hv ?_); (case hv => exact rfl))
  | with_reducible refine x_tupG ?_
  | with_reducible refine x_lstG ?_
  | with_reducible refine x_lc ?_
  | (with_reducible refine x_U ?_)
  | ((with_reducible refine' ite_T ?hv ?_); (case hv => exact rfl))
  | ((with_reducible refine' ite_F ?hv ?_); (case hv => exact rfl))
  | with_reducible refine x_for ?_
  | with_reducible refine x_iEnum ?_
  | with_reducible refine x_iList ?_
  | with_reducible refine x_iTup ?_
  | with_reducible refine x_gcons ?_
  | with_reducible refine x_gnil ?_
  | with_reducible refine x_bm ?_
  | with_reducible refine x_fldG ?_
  | with_reducible refine x_meth ?_
  | with_reducible refine x_sl ?_
  | with_reducible refine x_nopart ?_
  | with_reducible refine x_part ?_
  | with_reducible refine x_int ?_
  | with_reducible refine x_yes ?_
  | with_reducible refine x_isNG ?_
  | with_reducible refine x_notNG ?_
  | fail "no step")
local macro_rules | `(tactic| walk_at "g2") => `(tactic| first
  | with_reducible refine x_sfld ?_
  | with_reducible refine x_make ?_
  | with_reducible refine x_dnew ?_
  | with_reducible refine x_lcT ?_
  | with_reducible refine x_lcS ?_
  | with_reducible refine x_disp ?_
  | with_reducible refine x_pcons ?_
  | with_reducible refine x_pnil ?_
  | with_reducible refine x_dnewK ?_
  | with_reducible refine x_dput ?_
  | with_reducible refine x_gsub ?_
  | with_reducible refine x_dget2 ?_
  | with_reducible refine x_litems ?_
  | with_reducible refine x_bmX ?_
  | with_reducible refine x_ckw ?_
  | walk_at "g")
local macro_rules | `(tactic| walk_at "go") => `(tactic| repeat' walk_at "g2")

section
variable {P : Program} {w : World} {K : PySem.W.Frag} {mg : Str → Option Value} {base : Heap}
/-- == of two sheets that hold the same things -/
def sp_Sheet_eq (K : PySem.W.Frag) : Sp := fun vs H Q _ => ∃ G p d q d2 kvs hs, vs = [.ref p, .ref q] ∧ Ex G H ∧ MuS K G H p d kvs ∧ MuS K G H q d2 kvs ∧ HD K G kvs hs ∧ kn hs ∧ Q (.bl true) H
theorem sc_Sheet___eq__ : FnScope ["self", "other"] ["self", "other"] (defScope s_Sheet___eq__) := ⟨rfl, rfl, rfl, by decide +kernel, rfl, by decide +kernel, by decide +kernel⟩
theorem ok_Sheet___eq__ (T : TX K mg) : FnOk P w K mg base CX0 1 (f_Sheet___eq__ K) (fdO K (f_Sheet___eq__ K)) ["self", "other"] (sp_Sheet_eq K) := by
  refine (F_Sheet___eq__ T).ok sc_Sheet___eq__ (fun vs H Q E h => ?_) (fun cdv A outer s H vs Q E hr h => ?_)
  · obtain ⟨_, _, _, _, _, _, _, rfl, _⟩ := h; rfl
  · obtain ⟨G0, p, d, q, d2, kvs, hs, rfl, e, ms, ms2, hD, hk, k⟩ := h
    refine ⟨_, PSs.nox (pss_one (ps_ret (pe_and (pe_callB (isiK (K := K) (by rfl)) (by rfl) (z_isinstance T) PyProof.Rows.boot_isinstance (pa_cons (pv 1) (pa_cons (pe_glob (v := .ref (He.ga K "Sheet")) (by rfl) (g_Sheet T) rfl) pa_nil))) (pe_one (pe_cmpR (eqVK (K := K) (by have := hr.un; show _ + 64 < cLine; exact Nat.lt_of_succ_lt (lt65 hr)) (by rfl)) (fldK (K := K) (pv 0) (by rfl) (by rfl)) (fldK (K := K) (pv 1) (by rfl) (by rfl)) (nomark _)))))), ?_⟩
    walk_at "go"
    obtain ⟨dx2, m2⟩ := ms2.o
    refine isiG (.own _) (t_Sheet T m2.1) (i_Sheet_Sheet T) ?_
    walk_at "go"
    refine fS_held T ms ?_
    walk_at "go"
    refine fS_held T ms2 ?_
    exact eqHeld hD hk ms.d.1 ms2.d.1 k
def sp_Sheet_told (K : PySem.W.Frag) : Sp := fun vs H Q _ => ∃ G p d kvs hs, vs = [.ref p] ∧ Ex G H ∧ MuS K G H p d kvs ∧ HD K G kvs hs ∧ hs.length < 64 ∧
  ∀ G1 H1 r ys, St G H G1 H1 → ys.Perm (hs.map (·.1)) → sortedS ys = true → IsL IsS G1 r ys → Q r H1
theorem sc_Sheet_told : FnScope ["self"] ["self"] (defScope s_Sheet_told) := ⟨rfl, rfl, rfl, by decide +kernel, rfl, by decide +kernel, by decide +kernel⟩
theorem ok_Sheet_told (T : TX K mg) : FnOk P w K mg base CX0 1 (f_Sheet_told K) (fdO K (f_Sheet_told K)) ["self"] (sp_Sheet_told K) := by
  refine (F_Sheet_told T).ok sc_Sheet_told (fun vs H Q E h => ?_) (fun cdv A outer s H vs Q E hr h => ?_)
  · obtain ⟨_, _, _, _, _, rfl, _⟩ := h; rfl
  · obtain ⟨G0, p, d, kvs, hs, rfl, e, ms, hD, hz, k⟩ := h
    refine ⟨_, PSs.nox (pss_one (ps_ret (pe_callB (sortD rfl) (by rfl) (z_sorted T) (by decide +kernel) (pa_cons (fldK (K := K) (pv 0) (by rfl) (by rfl)) pa_nil)))), ?_⟩
    walk_at "go"
    refine fS_held T ms ?_
    walk_at "go"
    exact toldG hD ms.d e hz fun G1 H1 r ys s1 hp hs1 hL => k G1 H1 _ ys s1 hp hs1 hL
abbrev IsPr (K : PySem.W.Frag) : Rp (Blk × Str) := IsT2 (IsBlk K) IsS
theorem IsPr.mono : Mono (IsPr K) := IsT2.mono IsBlk.mono IsS.mono
def pkey (x : Blk × Str) : Int × Int := (x.1.t, x.1.l)
def spFirst (K : PySem.W.Frag) : Sp := fun vs H Q E => ∃ key, SpKey (GoodR (IsBlk K) bkey key) key vs H Q E
theorem ok_first_cellE (T : TX K mg) : FnOk P w K mg base CX0 1 (f_first_cell K) (fdO K (f_first_cell K)) ["block"] (spFirst K) :=
  ⟨fun vs H Q E ⟨key, h⟩ => (ok_first_cell (P := P) (w := w) (base := base) key T).len vs H Q E h, fun A outer s H args us vs Q E hr he hb hv ⟨key, h⟩ => (ok_first_cell key T).run A outer s H args us vs Q E hr he hb hv h⟩
theorem sc_first_of_part : FnScope ["part"] ["part"] (defScope s_first_of_part) := ⟨rfl, rfl, rfl, by decide +kernel, rfl, by decide +kernel, by decide +kernel⟩
variable (key : V → Int × Int) in
theorem ok_first_of_part (T : TX K mg) : FnOk P w K mg base CX0 2 (f_first_of_part K) (fdO K (f_first_of_part K)) ["part"] (SpKey (GoodR (IsPr K) pkey key) key) := by
  refine (F_first_of_part T).ok sc_first_of_part (fun vs H Q E h => ?_) (fun cdv A outer s H vs Q E hr h => ?_)
  · obtain ⟨_, rfl, _⟩ := h; rfl
  · obtain ⟨x, rfl, ⟨b, hb, ek⟩, k⟩ := h
    refine ⟨_, PSs.nox (pss_one (ps_ret (pe_call (ok_first_cellE T) (hr.mono (by decide)) (by rfl) (g_first_cell T) (F_first_cell T).kp (b_first_cell T) .nil pass0 (pa_cons (pe_ix (ixTK (K := K) (by rfl)) (pv 0) pe_int (fun _ _ => rfl)) pa_nil)))), ?_⟩
    walk_at "go"
    refine x_ixT0 hb (Ex.refl H) fun w1 hw1 => ?_
    walk_at "go"
    refine ⟨fun _ => (b.1.t, b.1.l), w1, rfl, ⟨b.1, hw1, rfl⟩, fun H' t ex ht => ?_⟩
    refine k H' t ex ?_
    rw [ek]; exact ht
/-- the pairs, in any order of the dict -/
def rawP (hs : Hs) : List (Blk × Str) := hs.flatMap fun h => if h.1 = Str.ofString "" then [] else h.2.map fun b => (b, h.1)
end
end GT

/-! ## K62P -/
set_option Elab.async false
set_option linter.all false
set_option maxRecDepth 100000
set_option maxHeartbeats 400000
namespace GT
open PySem PySem.Spec PyProof.Rows L2 G
local macro_rules | `(tactic| walk_at "ex") => `(tactic| first | exact Ex.refl _ | assumption | exact Stm.g (by assumption) | (refine Ex.trans ?_ (Stm.g (by assumption)); walk_at "ex"))
local macro_rules | `(tactic| walk_at "st") => `(tactic| first | exact Stm.refl (by assumption) | assumption | (refine Stm.trans ?_ (by assumption); walk_at "st"))
local macro_rules | `(tactic| walk_at "i") => `(tactic| first | assumption | exact Stm.i (by assumption))
local macro_rules | `(tactic| walk_at "fact") => `(tactic| first | rfl | exact (rfl : V.non = optV none) | exact (rfl : V.int _ = optV (some _)) | assumption)
local macro_rules | `(tactic| walk_at "g") => `(tactic| first
  | with_reducible refine x_seq ?_
  | with_reducible refine x_next ?_
  | with_reducible refine x_asg ?_
  | with_reducible refine x_ret ?_
  | with_reducible refine x_retN ?_
  | with_reducible refine x_drop ?_
  | with_reducible refine x_ifs ?_
  | ((with_reducible refine' x_var ?hv ?_); (case hv => exact rfl))
  | with_reducible refine x_c ?_
  | with_reducible refine x_op ?_
  | with_reducible refine x_un ?_
  | with_reducible refine x_test ?_
  | with_reducible refine x_B ?_
  | with_reducible refine x_bl ?_
  | with_reducible refine x_and ?_
  | with_reducible refine x_or ?_
  | with_reducible refine x_not ?_
  | with_reducible refine x_andV ?_
  | with_reducible refine x_orV ?_
  | with_reducible refine x_notV ?_
  | with_reducible refine x_ife ?_
  | with_reducible refine x_isN ?_
  | with_reducible refine x_notN ?_
  | with_reducible refine x_nil ?_
  | with_reducible refine x_cons ?_
  | with_reducible refine x_cb ?_
  | with_reducible refine x_call ?_
  | ((with_reducible refine' x_callL ?hv ?_); (case hv => exact rfl))
  | with_reducible refine x_gname ?_
  | with_reducible refine x_I0 ?_
  | ((with_reducible refine' x_eq ?hv ?_); (case hv => exact rfl))
  | ((with_reducible refine' x_ne ?hv ?_); (case hv => exact rfl))
  | with_reducible refine x_tupG ?_
  | with_reducible refine x_lstG ?_
  | with_reducible refine x_lc ?_
  | (with_reducible refine x_U ?_)
  | ((with_reducible refine' ite_T ?hv ?_); (case hv => exact rfl))
  | ((with_reducible refine' ite_F ?hv ?_); (case hv => exact rfl))
  | with_reducible refine x_for ?_
  | with_reducible refine x_iEnum ?_
  | with_reducible refine x_iList ?_
  | with_reducible refine x_iTup ?_
  | with_reducible refine x_gcons ?_
  | with_reducible refine x_gnil ?_
  | with_reducible refine x_bm ?_
  | with_reducible refine x_fldG ?_
  | with_reducible refine x_meth ?_
  | with_reducible refine x_sl ?_
  | with_reducible refine x_nopart ?_
  | with_reducible refine x_part ?_
  | with_reducible refine x_int ?_
  | with_reducible refine x_yes ?_
  | with_reducible refine x_isNG ?_
  | with_reducible refine x_notNG ?_
  | fail "no step")
local macro_rules | `(tactic| walk_at "g2") => `(tactic| first
  | with_reducible refine x_sfld ?_
  | with_reducible refine x_make ?_
  | with_reducible refine x_dnew ?_
  | with_reducible refine x_lcT ?_
  | with_reducible refine x_lcS ?_
  | with_reducible refine x_disp ?_
  | with_reducible refine x_pcons ?_
  | with_reducible refine x_pnil ?_
  | with_reducible refine x_dnewK ?_
  | with_reducible refine x_dput ?_
  | with_reducible refine x_gsub ?_
  | with_reducible refine x_dget2 ?_
  | with_reducible refine x_litems ?_
  | with_reducible refine x_bmX ?_
  | with_reducible refine x_ckw ?_
  | walk_at "g")
local macro_rules | `(tactic| walk_at "go") => `(tactic| repeat' walk_at "g2")

section
variable {P : Program} {w : World} {K : PySem.W.Frag} {mg : Str → Option Value} {base : Heap}
/-! ### the pairs of a sheet, with their blocks' own references -/
abbrev Zs := List (Str × List Blk × List V)
def HB (K : PySem.W.Frag) (G : Hp) (kvs : List (Key × V)) (zs : Zs) : Prop := Paired (fun kv z => kv.1 = Sum.inr z.1 ∧ ∃ a dx q, kv.2 = .ref a ∧ G a = some (.ins (He.ga K "Area") dx (arF q)) ∧ G q = some (.lst z.2.2) ∧ Paired (IsBlk K G) z.2.2 z.2.1) kvs zs
def zh (zs : Zs) : Hs := zs.map fun z => (z.1, z.2.1)
theorem HB.mono {G G' : Hp} {kvs : List (Key × V)} {zs : Zs} (h : HB K G kvs zs) (e : Ex G G') : HB K G' kvs zs := paired_imp (fun _ _ ⟨h1, a, dx, q, h2, h3, h4, h5⟩ => ⟨h1, a, dx, q, h2, e _ _ h3, e _ _ h4, paired_imp (fun a b q => IsBlk.mono _ _ a b e q) h5⟩) h
theorem HB.hd {G : Hp} : ∀ {kvs : List (Key × V)} {zs : Zs}, HB K G kvs zs → HD K G kvs (zh zs)
  | _, _, .nil => .nil
  | _, _, .cons ⟨h1, a, dx, q, h2, h3, h4, h5⟩ t => .cons ⟨h1, a, dx, q, h2, h3, q, _, rfl, h4, h5⟩ (HB.hd t)
theorem HD.hb {G : Hp} : ∀ {kvs : List (Key × V)} {hs : Hs}, HD K G kvs hs → ∃ zs, HB K G kvs zs ∧ zh zs = hs
  | _, _, .nil => ⟨[], .nil, rfl⟩
  | _, _, .cons (a := kv) (b := h) ⟨h1, a, dx, q, h2, h3, q', ws, e, h4, h5⟩ t => by
    obtain ⟨zs, hz, ez⟩ := HD.hb t
    cases e
    exact ⟨(h.1, h.2, ws) :: zs, .cons ⟨h1, a, dx, q, h2, h3, h4, h5⟩ hz, by show (h.1, h.2) :: zh zs = _; rw [ez]⟩
def IsPrR (K : PySem.W.Frag) : Rp (Blk × Str × V) := fun G v z => ∃ t, v = .ref t ∧ G t = some (.tup [z.2.2, .str z.2.1]) ∧ IsBlk K G z.2.2 z.1
theorem IsPrR.mono : Mono (IsPrR K) := fun _ _ _ _ e ⟨t, h1, h2, h3⟩ => ⟨t, h1, e _ _ h2, IsBlk.mono _ _ _ _ e h3⟩
theorem IsPrR.un {G : Hp} (v : V) (a b : Blk × Str × V) (h1 : IsPrR K G v a) (h2 : IsPrR K G v b) : a = b := by
  obtain ⟨t, rfl, g1, b1⟩ := h1
  obtain ⟨t', e, g2, b2⟩ := h2
  cases e
  rw [g1] at g2
  obtain ⟨a1, a2, a3⟩ := a
  obtain ⟨c1, c2, c3⟩ := b
  simp only [Option.some.injEq, HO.tup.injEq, List.cons.injEq, V.str.injEq, and_true] at g2
  obtain ⟨rfl, rfl⟩ := g2
  exact congrArg (fun z => (z, a2, a3)) (IsBlk.un _ _ _ b1 b2)
instance : Inhabited (Blk × Str × V) := ⟨(default, Str.empty, .non)⟩
def rkey (x : Blk × Str × V) : Int × Int := (x.1.t, x.1.l)
theorem ok_first_of_partR (T : TX K mg) (key : V → Int × Int) : FnOk P w K mg base CX0 2 (f_first_of_part K) (fdO K (f_first_of_part K)) ["part"] (SpKey (GoodR (IsPrR K) rkey key) key) :=
  FnOk.imp (ok_first_of_part key T) fun vs H Q E ⟨x, h1, ⟨a, ⟨t, e1, e2, e3⟩, ek⟩, k⟩ => ⟨x, h1, ⟨(a.1, a.2.1), ⟨t, _, _, e1, e2, e3, rfl⟩, ek⟩, k⟩
def partZ (z : Str × List Blk × List V) : List (Blk × Str × V) := if z.1 = Str.ofString "" then [] else (z.2.1.zip z.2.2).map fun q => (q.1, z.1, q.2)
def rawZ (zs : Zs) : List (Blk × Str × V) := zs.flatMap partZ
abbrev IsBV (K : PySem.W.Frag) : Rp (Blk × V) := fun G v q => IsBlk K G v q.1 ∧ v = q.2
theorem IsBV.mono : Mono (IsBV K) := fun _ _ _ _ e h => ⟨IsBlk.mono _ _ _ _ e h.1, h.2⟩
theorem zip_bv {G : Hp} : ∀ {ws : List V} {bs : List Blk}, Paired (IsBlk K G) ws bs → Paired (IsBV K G) ws (bs.zip ws)
  | _, _, .nil => .nil
  | _, _, .cons r t => .cons ⟨r, rfl⟩ (zip_bv t)
def sp_Sheet_pairs (K : PySem.W.Frag) : Sp := fun vs H Q _ => ∃ G p d kvs zs, vs = [.ref p] ∧ Ex G H ∧ MuS K G H p d kvs ∧ HB K G kvs zs ∧ zs.length ≤ 100 ∧ szH (zh zs) = true ∧
  ∀ G1 H1 r ys, St G H G1 H1 → ys.Perm (rawZ zs) → ys.Pairwise (fun x y => lexLe (rkey x) (rkey y)) → IsL (IsPrR K) G1 r ys → Q r H1
theorem sc_Sheet_pairs : FnScope ["self", "found", "value", "area", "block"] ["self"] (defScope s_Sheet_pairs) := ⟨rfl, rfl, rfl, by decide +kernel, rfl, by decide +kernel, by decide +kernel⟩
theorem ok_Sheet_pairs (T : TX K mg) : FnOk P w K mg base CX0 5 (f_Sheet_pairs K) (fdO K (f_Sheet_pairs K)) ["self"] (sp_Sheet_pairs K) := by
  refine (F_Sheet_pairs T).ok sc_Sheet_pairs (fun vs H Q E h => ?_) (fun cdv A outer s H vs Q E hr h => ?_)
  · obtain ⟨_, _, _, _, _, rfl, _⟩ := h; rfl
  · obtain ⟨G0, p, d, kvs, zs, rfl, e, ms, hB, hz, hsz, k⟩ := h
    refine ⟨_, PSs.nox (pss_cons (ps_set (i := 1) sc_Sheet_pairs.nd rfl (by first | exact Or.inl rfl | exact Or.inr rfl) (pe_lst pa_nil))
      (pss_cons (ps_lock (ps_for PassesOwn.never rfl (pi_items (fldK (K := K) (pv 0) (by rfl) (by rfl))) (pg_tup (by rfl) (pgs_cons (pg_name (i := 2) sc_Sheet_pairs.nd rfl (by first | exact Or.inl rfl | exact Or.inr rfl)) (pgs_cons (pg_name (i := 3) sc_Sheet_pairs.nd rfl (by first | exact Or.inl rfl | exact Or.inr rfl)) pgs_nil))) (pss_one (ps_if (pt_cmpR op_ne (pv 2) pe_str (nomark _)) (pss_one (ps_expr (pe_bm PySem.F.plainAttrs_list PySem.F.slot_list_extend PySem.F.type_list_extend mt_extend (pv 1) (pa_cons (pe_lc (own := [("block", 4)]) (g := gName 4) (by rfl) sc_Sheet_pairs.nd (pi_list (pe_meth0 (pv 3) (k_Area T) (m_Area_blocks T) (ok_Area_blocks T) (hr.mono (by decide)) (b_Area_blocks T) .nil pass0)) (blkOk_by (own := [("block", 4)]) (N := ["self", "found", "value", "area", "block"]) (sc := defScope s_Sheet_pairs) (by decide +kernel)) (fun _ _ _ _ _ => (pg_name (i := 4) sc_Sheet_pairs.nd rfl (by first | exact Or.inl rfl | exact Or.inr rfl))) (fun _ _ _ _ _ => pts_nil) (fun _ _ _ _ _ => (pe_tup (pa_cons (pv 4) (pa_cons (pv 2) pa_nil))))) pa_nil)))) pss_nil))))
      (pss_one (ps_ret (pe_callBK (cr_sortKE (K := K) (ok_first_of_partR T) (b_first_of_part T) (hr.mono (by decide)) (GoodR.mono IsPrR.mono) (by rfl)) (by rfl) (z_sorted T) (by decide +kernel) (pa_cons (pv 1) pa_nil) (pk_cons (pe_glob (v := .ref (He.ga K "first_of_part")) (by rfl) (g_first_of_part T) rfl) pk_nil)))))), ?_⟩
    walk_at "go"
    refine lstM e (Nat.zero_le _) fun pf H1 hpf s1 m1 => ?_
    walk_at "go"
    have ms1 := ms.st s1
    have hzl : (zh zs).length = zs.length := by unfold zh; rw [List.length_map]
    have hdf : d ≠ pf := fun c => by have q := ms.d.1; rw [c, hpf] at q; cases q
    have hbig : 150101 < sizeLine := by decide
    have hraw : ∀ i, (rawZ (zs.take i)).length ≤ 1500 * i := by
      intro i
      induction i with
      | zero => simp [rawZ]
      | succ i ih =>
        cases hzi : zs[i]? with
        | none =>
          have : zs.length ≤ i := List.getElem?_eq_none_iff.mp hzi
          rw [List.take_of_length_le (by omega)]
          rw [List.take_of_length_le (by omega)] at ih
          omega
        | some z =>
          rw [take_more hzi]
          unfold rawZ at ih ⊢
          rw [List.flatMap_append, List.length_append]
          have hm : (z.1, z.2.1) ∈ zh zs := List.mem_map.mpr ⟨z, List.mem_of_getElem? hzi, rfl⟩
          have hl : z.2.1.length ≤ 1500 := of_decide_eq_true (List.all_eq_true.mp hsz _ hm)
          have hp : (partZ z).length ≤ 1500 := by
            unfold partZ
            split
            · exact Nat.zero_le _
            · rw [List.length_map, List.length_zip]
              exact Nat.le_trans (Nat.min_le_left _ _) hl
          have e1 : ([z].flatMap partZ).length = (partZ z).length := by simp
          omega
    refine forI (K := K) (d := d) (kvs := kvs) (hs := zh zs) (fun H' R hH h => ?_) ms1.d (hB.hd) s1.i (fun od i σ' G' H' => ∃ o2 o3 o4 acc, σ' = [some (.ref p), some (.ref pf), o2, o3, o4] ∧ Stm [d, pf] G0 H1 G' H' ∧ Mu G' H' d (.frz od (.dK kvs)) ∧ Mu G' H' pf (.lst acc) ∧ Paired (IsPrR K G') acc (rawZ (zs.take i)))
      (fun od H3 s3 m3 => ⟨none, none, none, [], rfl, s3.sub (by simp), m3, s3.m _ _ (fun q => hdf (List.mem_singleton.mp q).symm) m1, .nil⟩)
      (fun od i σ' G' H' _ ⟨_, _, _, _, _, s, m, _⟩ => ⟨s.g, s.i, m⟩) ?_ ?_
    · obtain ⟨dx, q⟩ := ms1.o
      walk_at "go"
      exact fldG (by rw [hH p ms1.ne]; exact q.1) (k_Sheet T) (n_Sheet_held T) (shF_held d) h
    · rintro od i x w' Tt σ1 G3 H3 G4 H4 D2 hi hki ⟨o2, o3, o4, acc, rfl, sA, mdA, mfA, pA⟩ s4 hw hT hnx
      obtain ⟨z, hzi, hzr⟩ := G.paired_get hB hki
      have hx : x = (z.1, z.2.1) := by
        unfold zh at hi
        rw [List.getElem?_map, hzi] at hi
        exact (Option.some.inj hi).symm
      subst hx
      have eg4 := sA.g.trans s4.g
      obtain ⟨_, a, dx, q, ew, ga, gq, pb⟩ := hzr
      have ew : w' = .ref a := ew
      subst ew
      have hacc : acc.length ≤ 1500 * i := by rw [paired_len pA]; exact hraw i
      have hil : i < zs.length := (List.getElem?_eq_some_iff.mp hzi).1
      have hmore : rawZ (zs.take (i + 1)) = rawZ (zs.take i) ++ partZ z := by
        rw [take_more hzi]; unfold rawZ; rw [List.flatMap_append]; simp
      refine x_gtup (s4.i _ _ hT) rfl ?_
      walk_at "go"
      have e2 : decide (V.str z.1 = V.str (Str.ofString "")) = decide (z.1 = Str.ofString "") := by
        by_cases c : z.1 = Str.ofString ""
        · rw [decide_eq_true c, decide_eq_true (by rw [c])]
        · rw [decide_eq_false c, decide_eq_false fun q => c (V.str.inj q)]
      rw [e2]
      refine ite_b2 (fun c1 => ?_) (fun c1 => ?_)
      · have hne : ¬ z.1 = Str.ofString "" := fun c => by rw [decide_eq_true c] at c1; cases c1
        have mfB := s4.mu mfA
        walk_at "go"
        refine ⟨x_tyL mfB, ?_⟩
        walk_at "go"
        refine mA hw s4.i (by decide +kernel) ?_
        walk_at "go"
        refine ⟨G4, a, dx, q, z.2.2, rfl, s4.i, eg4 _ _ ga, eg4 _ _ gq, fun G5 H5 r5 s5 g5 => ?_⟩
        walk_at "go"
        have hL : IsL (IsBV K) G5 (.ref r5) (z.2.1.zip z.2.2) := ⟨r5, _, rfl, g5, zip_bv (paired_imp (fun a b q => IsBlk.mono _ _ a b (eg4.trans s5.g) q) pb)⟩
        have hm : (z.1, z.2.1) ∈ zh zs := List.mem_map.mpr ⟨z, List.mem_of_getElem? hzi, rfl⟩
        have hl : z.2.1.length ≤ 1500 := of_decide_eq_true (List.all_eq_true.mp hsz _ hm)
        have hzl2 : (z.2.1.zip z.2.2).length ≤ 1500 := by rw [List.length_zip]; exact Nat.le_trans (Nat.min_le_left _ _) hl
        refine lcG (R := IsBV K) (S := IsPrR K) IsBV.mono IsPrR.mono (fun _ => true) (fun q => (q.1, z.1, q.2)) s5.i hL (by omega) (fun y wy G6 H6 N0 N1 _ s6 hwy n0 n1 => ?_) fun G6 H6 D s6 hD6 => ?_
        · refine ⟨rfl, ?_⟩
          walk_at "go"
          refine tupI s6.i (by show 2 ≤ 1000; decide) fun pt G7 H7 s7 ht => ?_
          refine n1 _ _ _ s7 ⟨pt, rfl, ?_, ?_⟩ rfl
          · rw [ht, hwy.2]
          · show IsBlk K G7 y.2 y.1
            rw [← hwy.2]
            exact IsBlk.mono _ _ _ _ s7.g hwy.1
        · have ef : ((z.2.1.zip z.2.2).filter fun _ => true) = z.2.1.zip z.2.2 := List.filter_eq_self.mpr fun _ _ => rfl
          rw [ef] at hD6
          walk_at "go"
          have mfC := s6.mu (s5.mu mfB)
          refine extL mfC hD6 s6.i (by rw [List.length_map]; omega) fun H7 ws s7 m7 p7 => ?_
          walk_at "go"
          refine hnx _ G6 H7 ⟨_, _, _, _, rfl, (sA.trans (St.up ((s4.trans s5).trans s6))).trans (s7.sub (by simp)), s7.m _ _ (fun q => hdf (List.mem_singleton.mp q)) (s6.mu (s5.mu (s4.mu mdA))), m7, ?_⟩
          rw [hmore]
          have ep : partZ z = (z.2.1.zip z.2.2).map fun q => (q.1, z.1, q.2) := by unfold partZ; rw [if_neg hne]
          rw [ep]
          exact paired_app (paired_imp (fun a b q => IsPrR.mono _ _ a b ((s4.trans s5).trans s6).g q) pA) p7
      · have hne : z.1 = Str.ofString "" := by
          by_cases c : z.1 = Str.ofString ""
          · exact c
          · rw [decide_eq_false c] at c1; cases c1
        walk_at "go"
        refine hnx _ G4 H4 ⟨_, _, _, _, rfl, sA.trans (St.up s4), s4.mu mdA, s4.mu mfA, ?_⟩
        rw [hmore]
        have ep : partZ z = [] := by unfold partZ; rw [if_pos hne]
        rw [ep, List.append_nil]
        exact paired_imp (fun a b q => IsPrR.mono _ _ a b s4.g q) pA
    · rintro od σ' G3 H3 H4 ⟨o2, o3, o4, acc, rfl, sA, mdA, mfA, pA⟩ s4 m4
      rw [hzl, List.take_length] at pA
      have mfB := s4.m _ _ (fun q => hdf (List.mem_singleton.mp q).symm) mfA
      have s5 : Stm [pf] G0 H1 G3 H4 := Stm.closeA (sA.trans (s4.sub (by simp))) ms1.d m4
      obtain ⟨s6, g6⟩ := freeze mfB s5.i
      have s7 : St G0 H (upd G3 pf (.lst acc)) H4 := Stm.fresh s1 (s5.trans s6) fun q hq => by rw [List.mem_singleton.mp hq]; exact hpf
      walk_at "go"
      refine sortL (R := IsPrR K) (kx := rkey) IsPrR.mono IsPrR.un ⟨pf, acc, rfl, g6, paired_imp (fun a b q => IsPrR.mono _ _ a b s6.g q) pA⟩ s7.i fun G8 H8 p8 ys s8 hp ho hL => ?_
      exact k _ _ _ ys (s7.trans s8) hp ho hL
end
end GT

/-! ## K62Q -/
set_option Elab.async false
set_option linter.all false
set_option maxRecDepth 100000
set_option maxHeartbeats 400000
namespace GT
open PySem PySem.Spec PyProof.Rows L2 G
local macro_rules | `(tactic| walk_at "ex") => `(tactic| first | exact Ex.refl _ | assumption | exact Stm.g (by assumption) | (refine Ex.trans ?_ (Stm.g (by assumption)); walk_at "ex"))
local macro_rules | `(tactic| walk_at "st") => `(tactic| first | exact Stm.refl (by assumption) | assumption | (refine Stm.trans ?_ (by assumption); walk_at "st"))
local macro_rules | `(tactic| walk_at "i") => `(tactic| first | assumption | exact Stm.i (by assumption))
local macro_rules | `(tactic| walk_at "fact") => `(tactic| first | rfl | exact (rfl : V.non = optV none) | exact (rfl : V.int _ = optV (some _)) | assumption)
local macro_rules | `(tactic| walk_at "g") => `(tactic| first
  | with_reducible refine x_seq ?_
  | with_reducible refine x_next ?_
  | with_reducible refine x_asg ?_
  | with_reducible refine x_ret ?_
  | with_reducible refine x_retN ?_
  | with_reducible refine x_drop ?_
  | with_reducible refine x_ifs ?_
  | ((with_reducible refine' x_var ?hv ?_); (case hv => exact rfl))
  | with_reducible refine x_c ?_
  | with_reducible refine x_op ?_
  | with_reducible refine x_un ?_
  | with_reducible refine x_test ?_
  | with_reducible refine x_B ?_
  | with_reducible refine x_bl ?_
  | with_reducible refine x_and ?_
  | with_reducible refine x_or ?_
  | with_reducible refine x_not ?_
  | with_reducible refine x_andV ?_
  | with_reducible refine x_orV ?_
  | with_reducible refine x_notV ?_
  | with_reducible refine x_ife ?_
  | with_reducible refine x_isN ?_
  | with_reducible refine x_notN ?_
  | with_reducible refine x_nil ?_
  | with_reducible refine x_cons ?_
  | with_reducible refine x_cb ?_
  | with_reducible refine x_call ?_
  | ((with_reducible refine' x_callL ?hv ?_); (case hv => exact rfl))
  | with_reducible refine x_gname ?_
  | with_reducible refine x_I0 ?_
  | ((with_reducible refine' x_eq ?hv ?_); (case hv => exact rfl))
  | ((with_reducible refine' x_ne ?hv ?_); (case hv => exact rfl))
  | with_reducible refine x_tupG ?_
  | with_reducible refine x_lstG ?_
  | with_reducible refine x_lc ?_
  | (with_reducible refine x_U ?_)
  | ((with_reducible refine' ite_T ?hv ?_); (case hv => exact rfl))
  | ((with_reducible refine' ite_F ?hv ?_); (case hv => exact rfl))
  | with_reducible refine x_for ?_
  | with_reducible refine x_iEnum ?_
  | with_reducible refine x_iList ?_
  | with_reducible refine x_iTup ?_
  | with_reducible refine x_gcons ?_
  | with_reducible refine x_gnil ?_
  | with_reducible refine x_bm ?_
  | with_reducible refine x_fldG ?_
  | with_reducible refine x_meth ?_
  | with_reducible refine x_sl ?_
  | with_reducible refine x_nopart ?_
  | with_reducible refine x_part ?_
  | with_reducible refine x_int ?_
  | with_reducible refine x_yes ?_
  | with_reducible refine x_isNG ?_
  | with_reducible refine x_notNG ?_
  | fail "no step")
local macro_rules | `(tactic| walk_at "g2") => `(tactic| first
  | with_reducible refine x_sfld ?_
  | with_reducible refine x_make ?_
  | with_reducible refine x_dnew ?_
  | with_reducible refine x_lcT ?_
  | with_reducible refine x_lcS ?_
  | with_reducible refine x_disp ?_
  | with_reducible refine x_pcons ?_
  | with_reducible refine x_pnil ?_
  | with_reducible refine x_dnewK ?_
  | with_reducible refine x_dput ?_
  | with_reducible refine x_gsub ?_
  | with_reducible refine x_dget2 ?_
  | with_reducible refine x_litems ?_
  | with_reducible refine x_bmX ?_
  | with_reducible refine x_ckw ?_
  | walk_at "g")
local macro_rules | `(tactic| walk_at "go") => `(tactic| repeat' walk_at "g2")

section
variable {P : Program} {w : World} {K : PySem.W.Frag} {mg : Str → Option Value} {base : Heap}
def sp_Area_others (K : PySem.W.Frag) : Sp := fun vs H Q _ => ∃ G v xs, vs = [v] ∧ Ex G H ∧ IsAr K G v xs ∧ okBy all1 xs (fun a b => a && !b) = true ∧ ∀ G1 H1 r, St G H G1 H1 → IsAr K G1 r (byA all1 xs fun a b => a && !b) → Q r H1
theorem sc_Area_others : FnScope ["self"] ["self"] (defScope s_Area_others) := ⟨rfl, rfl, rfl, by decide +kernel, rfl, by decide +kernel, by decide +kernel⟩
theorem ok_Area_others (T : TX K mg) : FnOk P w K mg base CX0 11 (f_Area_others K) (fdO K (f_Area_others K)) ["self"] (sp_Area_others K) := by
  refine (F_Area_others T).ok sc_Area_others (fun vs H Q E h => ?_) (fun cdv A outer s H vs Q E hr h => ?_)
  · obtain ⟨_, _, _, rfl, _⟩ := h; rfl
  · obtain ⟨G0, v, xs, rfl, e, hv, ok, q⟩ := h
    refine ⟨_, PSs.nox (pss_one (ps_ret (pe_meth (pe_make (mk_Area T) (ok_Area___init__ T) (hr.mono (by decide)) (by rfl) (g_Area T) (b_Area___init___2 T).choose_spec.2 (b_Area___init___2 T).choose_spec.1 pass0 (pa_cons (pe_lst (pa_cons (pe_make0 (mk_Block T) (ok_Block___init__ T) (hr.mono (by decide)) (by rfl) (g_Block T) (b_Block___init___1 T).choose_spec.2 (b_Block___init___1 T).choose_spec.1 pass0) pa_nil)) pa_nil)) (k_Area T) (m_Area_without T) (ok_Area_without T) (hr.mono (by decide)) (b_Area_without T) .nil pass0 (pa_cons (pv 0) pa_nil)))), ?_⟩
    walk_at "go"
    refine mkBlk (b := ⟨1, 1, none, none⟩) rfl (by decide) e fun pb G2 H2 s2 hb => ?_
    walk_at "go"
    refine lstI s2.i (by show 1 ≤ 1000; decide) fun pl G3 H3 s3 g3 => ?_
    walk_at "go"
    have hL : IsL (IsBlk K) G3 (.ref pl) all1 := ⟨pl, _, rfl, g3, .cons (IsBlk.mono _ _ _ _ s3.g hb) .nil⟩
    refine mkArea rfl (.inr hL) okN_all s3.i fun pa G4 H4 s4 ha => ?_
    rw [norm_all] at ha
    have st := (s2.trans s3).trans s4
    refine mA ha s4.i (by decide +kernel) ?_
    walk_at "go"
    exact ⟨G4, _, _, all1, xs, rfl, s4.i, ha, IsAr.mono _ _ _ _ st.g hv, ok, fun G1 H1 r s h => q G1 H1 r (st.trans s) h⟩
/-- changes that are refused -/
def sp_checked_changes (K : PySem.W.Frag) : Sp := fun vs H Q E => ∃ G l x t, vs = [.ref l] ∧ Ex G H ∧ G l = some (.lst [x]) ∧ Od K G x t ∧ PySem.W.kitOne K t (.ref (He.ga K "Change")) = some false ∧ ∀ G1 H1, St G H G1 H1 → E (.ref (He.ga K "NoChange")) none H1
theorem sc_checked_changes : FnScope ["changes", "change"] ["changes"] (defScope s_checked_changes) := ⟨rfl, rfl, rfl, by decide +kernel, rfl, by decide +kernel, by decide +kernel⟩
theorem ok_checked_changes (T : TX K mg) : FnOk P w K mg base (L2N.CX P w) 1 (f_checked_changes K) (fdO K (f_checked_changes K)) ["changes"] (sp_checked_changes K) := by
  refine (F_checked_changes T).ok sc_checked_changes (fun vs H Q E h => ?_) (fun cdv A outer s H vs Q E hr h => ?_)
  · obtain ⟨_, _, _, _, rfl, _⟩ := h; rfl
  · obtain ⟨G0, l, x, t, rfl, e, hl, ty, kt, q⟩ := h
    refine ⟨_, (pss_one (ps_if (PW.pt (pw_or (pt_not (pt_val (pe_callB (isiK (K := K) (by rfl)) (by rfl) (z_isinstance T) PyProof.Rows.boot_isinstance (pa_cons (pv 0) (pa_cons (pe_bltn (v := .ty "list") (by rfl) (z_list T) (by decide +kernel) rfl) pa_nil))))) (pw_or1 (pt_not (pt_val (pe_callB (cr_all rfl) (by rfl) (z_all T) PyProof.Rows.boot_all (pa_cons (pe_lc (own := [("change", 1)]) (g := gName 1) (by rfl) sc_checked_changes.nd (pi_list (pv 0)) (blkOk_by (own := [("change", 1)]) (N := ["changes", "change"]) (sc := defScope s_checked_changes) (by decide +kernel)) (fun _ _ _ _ _ => (pg_name (i := 1) sc_checked_changes.nd rfl (by first | exact Or.inl rfl | exact Or.inr rfl))) (fun _ _ _ _ _ => pts_nil) (fun _ _ _ _ _ => (pe_callB (isiK (K := K) (by rfl)) (by rfl) (z_isinstance T) PyProof.Rows.boot_isinstance (pa_cons (pv 1) (pa_cons (pe_glob (v := .ref (He.ga K "Change")) (by rfl) (g_Change T) rfl) pa_nil))))) pa_nil))))))) (pss_one (L2N.ps_raise rfl (L2N.takes_of rfl rfl rfl rfl) (L2N.pmk_own PySem.F.excBase_ValueError (e_NoChange T).1 (g_NoChange T) (e_NoChange T).2.1 (raises_own (e_NoChange T).2.2.1 (e_NoChange T).2.2.2) (by rfl)))) pss_nil)), ?_⟩
    walk_at "go"
    refine isiG (.ty "list") (tyL (e _ _ hl)) (kit_ty (b := "list") (r := true) (by decide +kernel)) ?_
    walk_at "go"
    refine lcG (R := fun G v (u : Unit) => Od K G v t) (S := IsB) (fun _ _ _ _ e h => h.mono e) IsB.mono (fun _ => true) (fun _ => false) e (xs := [()]) ⟨l, _, rfl, hl, .cons ty .nil⟩ (by show 1 < sizeLine; decide) (fun u w' G1 H1 N0 N1 _ s1 hw n0 n1 => ?_) fun G1 H1 D s1 hD => ?_
    · refine ⟨rfl, ?_⟩
      walk_at "go"
      refine isiG (.own _) (hw H1 s1.i) kt ?_
      exact n1 _ _ _ (Stm.refl s1.i) rfl rfl
    · walk_at "go"
      refine allL hD s1.i ?_
      refine ⟨_, rfl, ?_⟩
      exact q _ _ s1
theorem sc_area_behind : FnScope ["changes", "area", "change"] ["changes", "area"] (defScope s_area_behind) := ⟨rfl, rfl, rfl, by decide +kernel, rfl, by decide +kernel, by decide +kernel⟩
def sp_area_behind (K : PySem.W.Frag) : Sp := fun vs H Q E => ∃ G l x t y, vs = [.ref l, y] ∧ Ex G H ∧ G l = some (.lst [x]) ∧ Od K G x t ∧ PySem.W.kitOne K t (.ref (He.ga K "Change")) = some false ∧ ∀ G1 H1, St G H G1 H1 → E (.ref (He.ga K "NoChange")) none H1
theorem ok_area_behind (T : TX K mg) : FnOk P w K mg base (L2N.CX P w) 2 (f_area_behind K) (fdO K (f_area_behind K)) ["changes", "area"] (sp_area_behind K) := by
  refine (F_area_behind T).ok sc_area_behind (fun vs H Q E h => ?_) (fun cdv A outer s H vs Q E hr h => ?_)
  · obtain ⟨_, _, _, _, _, rfl, _⟩ := h; rfl
  · obtain ⟨G0, l, x, t, y, rfl, e, hl, ty, kt, q⟩ := h
    refine ⟨_, (pss_cons (ps_expr (pe_call (ok_checked_changes T) (hr.mono (by decide)) (by rfl) (g_checked_changes T) (F_checked_changes T).kp (b_checked_changes T) .nil (passE (L2N.takes_of rfl rfl rfl rfl)) (pa_cons (pv 0) pa_nil)))
      (pss_cons ps_never
      (pss_cons ps_never
      (pss_one (ps_ret (pv 1)))))), ?_⟩
    walk_at "go"
    exact ⟨G0, l, x, t, rfl, e, hl, ty, kt, q⟩
def sp_Sheet_change (K : PySem.W.Frag) : Sp := fun vs H Q E => ∃ G p x t, vs = [.ref p, x] ∧ Ex G H ∧ Od K G x t ∧ PySem.W.kitOne K t (.ref (He.ga K "Change")) = some false ∧ ∀ G1 H1, St G H G1 H1 → E (.ref (He.ga K "NoChange")) none H1
theorem sc_Sheet_change : FnScope ["self", "change", "left", "held", "value", "area"] ["self", "change"] (defScope s_Sheet_change) := ⟨rfl, rfl, rfl, by decide +kernel, rfl, by decide +kernel, by decide +kernel⟩
theorem ok_Sheet_change (T : TX K mg) : FnOk P w K mg base (L2N.CX P w) 12 (f_Sheet_change K) (fdO K (f_Sheet_change K)) ["self", "change"] (sp_Sheet_change K) := by
  refine (F_Sheet_change T).ok sc_Sheet_change (fun vs H Q E h => ?_) (fun cdv A outer s H vs Q E hr h => ?_)
  · obtain ⟨_, _, _, _, rfl, _⟩ := h; rfl
  · obtain ⟨G0, p, x, t, rfl, e, ty, kt, q⟩ := h
    refine ⟨_, (pss_cons (ps_set (i := 2) sc_Sheet_change.nd rfl (by first | exact Or.inl rfl | exact Or.inr rfl) (pe_meth0 (pe_call (ok_area_behind T) (hr.mono (by decide)) (by rfl) (g_area_behind T) (F_area_behind T).kp (b_area_behind T) .nil (passE (L2N.takes_of rfl rfl rfl rfl)) (pa_cons (pe_lst (pa_cons (pv 1) pa_nil)) (pa_cons (pe_make0 (mk_Area T) (ok_Area___init__ T) (hr.mono (by decide)) (by rfl) (g_Area T) (b_Area___init___1 T).choose_spec.2 (b_Area___init___1 T).choose_spec.1 pass0) pa_nil))) (k_Area T) (m_Area_others T) (ok_Area_others T) (hr.mono (by decide)) (b_Area_others T) .nil pass0))
      (pss_cons ps_never
      (pss_cons ps_never
      (pss_cons ps_never
      (pss_one ps_never))))), ?_⟩
    walk_at "go"
    refine lstI e (by show 1 ≤ 1000; decide) fun pl G1 H1 s1 g1 => ?_
    walk_at "go"
    refine mkArea (v := .non) rfl (.inl ⟨rfl, rfl⟩) okN_nil s1.i fun pn G2 H2 s2 hn => ?_
    walk_at "go"
    exact ⟨G2, pl, x, t, _, rfl, s2.i, s2.g _ _ g1, (ty.mono s1.g).mono s2.g, kt, fun G3 H3 s3 => q _ _ ((s1.trans s2).trans s3)⟩
end
end GT

/-! ## K62R -/
set_option Elab.async false
set_option linter.all false
set_option maxRecDepth 100000
set_option maxHeartbeats 400000
namespace GT
open PySem PySem.Spec PyProof.Rows L2 G
local macro_rules | `(tactic| walk_at "ex") => `(tactic| first | exact Ex.refl _ | assumption | exact Stm.g (by assumption) | (refine Ex.trans ?_ (Stm.g (by assumption)); walk_at "ex"))
local macro_rules | `(tactic| walk_at "st") => `(tactic| first | exact Stm.refl (by assumption) | assumption | (refine Stm.trans ?_ (by assumption); walk_at "st"))
local macro_rules | `(tactic| walk_at "i") => `(tactic| first | assumption | exact Stm.i (by assumption))
local macro_rules | `(tactic| walk_at "fact") => `(tactic| first | rfl | exact (rfl : V.non = optV none) | exact (rfl : V.int _ = optV (some _)) | assumption)
local macro_rules | `(tactic| walk_at "g") => `(tactic| first
  | with_reducible refine x_seq ?_
  | with_reducible refine x_next ?_
  | with_reducible refine x_asg ?_
  | with_reducible refine x_ret ?_
  | with_reducible refine x_retN ?_
  | with_reducible refine x_drop ?_
  | with_reducible refine x_ifs ?_
  | ((with_reducible refine' x_var ?hv ?_); (case hv => exact rfl))
  | with_reducible refine x_c ?_
  | with_reducible refine x_op ?_
  | with_reducible refine x_un ?_
  | with_reducible refine x_test ?_
  | with_reducible refine x_B ?_
  | with_reducible refine x_bl ?_
  | with_reducible refine x_and ?_
  | with_reducible refine x_or ?_
  | with_reducible refine x_not ?_
  | with_reducible refine x_andV ?_
  | with_reducible refine x_orV ?_
  | with_reducible refine x_notV ?_
  | with_reducible refine x_ife ?_
  | with_reducible refine x_isN ?_
  | with_reducible refine x_notN ?_
  | with_reducible refine x_nil ?_
  | with_reducible refine x_cons ?_
  | with_reducible refine x_cb ?_
  | with_reducible refine x_call ?_
  | ((with_reducible refine' x_callL ?hv ?_); (case hv => exact rfl))
  | with_reducible refine x_gname ?_
  | with_reducible refine x_I0 ?_
  | ((with_reducible refine' x_eq ?hv ?_); (case hv => exact rfl))
  | ((with_reducible refine' x_ne ?hv ?_); (case hv => exact rfl))
  | with_reducible refine x_tupG ?_
  | with_reducible refine x_lstG ?_
  | with_reducible refine x_lc ?_
  | (with_reducible refine x_U ?_)
  | ((with_reducible refine' ite_T ?hv ?_); (case hv => exact rfl))
  | ((with_reducible refine' ite_F ?hv ?_); (case hv => exact rfl))
  | with_reducible refine x_for ?_
  | with_reducible refine x_iEnum ?_
  | with_reducible refine x_iList ?_
  | with_reducible refine x_iTup ?_
  | with_reducible refine x_gcons ?_
  | with_reducible refine x_gnil ?_
  | with_reducible refine x_bm ?_
  | with_reducible refine x_fldG ?_
  | with_reducible refine x_meth ?_
  | with_reducible refine x_sl ?_
  | with_reducible refine x_nopart ?_
  | with_reducible refine x_part ?_
  | with_reducible refine x_int ?_
  | with_reducible refine x_yes ?_
  | with_reducible refine x_isNG ?_
  | with_reducible refine x_notNG ?_
  | fail "no step")
local macro_rules | `(tactic| walk_at "g2") => `(tactic| first
  | with_reducible refine x_sfld ?_
  | with_reducible refine x_make ?_
  | with_reducible refine x_dnew ?_
  | with_reducible refine x_lcT ?_
  | with_reducible refine x_lcS ?_
  | with_reducible refine x_disp ?_
  | with_reducible refine x_pcons ?_
  | with_reducible refine x_pnil ?_
  | with_reducible refine x_dnewK ?_
  | with_reducible refine x_dput ?_
  | with_reducible refine x_gsub ?_
  | with_reducible refine x_dget2 ?_
  | with_reducible refine x_litems ?_
  | with_reducible refine x_bmX ?_
  | with_reducible refine x_ckw ?_
  | walk_at "g")
local macro_rules | `(tactic| walk_at "go") => `(tactic| repeat' walk_at "g2")

section
variable {P : Program} {w : World} {K : PySem.W.Frag} {mg : Str → Option Value} {base : Heap}
def sp_checked_move (K : PySem.W.Frag) : Sp := fun vs H Q E => ∃ x y, vs = [x, y] ∧ Knd K H x ∧ Knd K H y ∧ ((isIntV x && isIntV y) = true → Q .non H) ∧ ((isIntV x && isIntV y) = false → E (.ref (He.ga K "NoNumber")) none H)
theorem sc_checked_move : FnScope ["rows", "columns"] ["rows", "columns"] (defScope s_checked_move) := ⟨rfl, rfl, rfl, by decide +kernel, rfl, by decide +kernel, by decide +kernel⟩
theorem ok_checked_move (T : TX K mg) : FnOk P w K mg base (L2N.CX P w) 2 (f_checked_move K) (fdO K (f_checked_move K)) ["rows", "columns"] (sp_checked_move K) := by
  refine (F_checked_move T).ok sc_checked_move (fun vs H Q E h => ?_) (fun cdv A outer s H vs Q E hr h => ?_)
  · obtain ⟨_, _, rfl, _⟩ := h; rfl
  · obtain ⟨x, y, rfl, hx, hy, k1, k2⟩ := h
    refine ⟨_, (pss_one (ps_if (PW.pt (pw_or (pt_not (pt_val (pe_call (ok_is_whole T) (hr.mono (by decide)) (by rfl) (g_is_whole T) (F_is_whole T).kp (b_is_whole T) .nil pass0 (pa_cons (pv 0) pa_nil)))) (pw_or1 (pt_not (pt_val (pe_call (ok_is_whole T) (hr.mono (by decide)) (by rfl) (g_is_whole T) (F_is_whole T).kp (b_is_whole T) .nil pass0 (pa_cons (pv 1) pa_nil))))))) (pss_one (L2N.ps_raise rfl (L2N.takes_of rfl rfl rfl rfl) (L2N.pmk_own PySem.F.excBase_ValueError (e_NoNumber T).1 (g_NoNumber T) (e_NoNumber T).2.1 (raises_own (e_NoNumber T).2.2.1 (e_NoNumber T).2.2.2) (by rfl)))) pss_nil)), ?_⟩
    walk_at "go"
    refine ⟨x, rfl, hx, _, rfl, ?_⟩
    cases h1 : isIntV x with
    | false =>
      rw [h1] at k2
      exact k2 rfl
    | true =>
      rw [h1] at k1 k2
      walk_at "go"
      refine ⟨y, rfl, hy, _, rfl, ?_⟩
      cases h2 : isIntV y with
      | false => rw [h2] at k2; exact k2 rfl
      | true => rw [h2] at k1; exact k1 rfl
def IsRO : Rp (Option Rn) := fun G v o => match o with
  | none => v = .non
  | some z => IsRn G v z
def sp_moved_ends : Sp := fun vs H Q _ => ∃ G a l n, vs = [.int a, optV l, .int n] ∧ Ex G H ∧ ∀ G1 H1 r, St G H G1 H1 → IsRO G1 r (movedE a l n) → Q r H1
theorem sc_moved_ends : FnScope ["first", "last", "by"] ["first", "last", "by"] (defScope s_moved_ends) := ⟨rfl, rfl, rfl, by decide +kernel, rfl, by decide +kernel, by decide +kernel⟩
theorem ok_moved_ends (T : TX K mg) : FnOk P w K mg base CX0 1 (f_moved_ends K) (fdO K (f_moved_ends K)) ["first", "last", "by"] sp_moved_ends := by
  refine (F_moved_ends T).ok sc_moved_ends (fun vs H Q E h => ?_) (fun cdv A outer s H vs Q E hr h => ?_)
  · obtain ⟨_, _, _, _, rfl, _⟩ := h; rfl
  · obtain ⟨G0, a, l, n, rfl, e, k⟩ := h
    refine ⟨_, PSs.nox (pss_cons (ps_if (PW.pt (pw_and (pt_cmpR op_notNG (pv 1) pe_non (nomark _)) (pw_and1 (pt_cmpR op_lt (pe_op op_add (pv 1) (pv 2)) pe_int (nomark _))))) (pss_one (ps_ret pe_non)) pss_nil)
      (pss_cons (ps_if (pt_cmpR op_notNG (pv 1) pe_non (nomark _)) (pss_one (ps_aug (i := 1) sc_moved_ends.nd rfl (by first | exact Or.inl rfl | exact Or.inr rfl) (pv 2) ip_add)) pss_nil)
      (pss_one (ps_ret (pe_tup (pa_cons (pe_callB (maxK rfl) (by rfl) (z_max T) (by decide +kernel) (pa_cons pe_int (pa_cons (pe_op op_add (pv 0) (pv 2)) pa_nil))) (pa_cons (pv 1) pa_nil))))))), ?_⟩
    cases l with
    | none =>
      walk_at "go"
      refine ⟨1, a + n, rfl, ?_⟩
      walk_at "go"
      refine tupI e (by show 2 ≤ 1000; decide) fun pt G1 H1 s1 ht => ?_
      walk_at "go"
      exact k _ _ _ s1 ⟨pt, _, _, rfl, ht, rfl, rfl⟩
    | some l =>
      walk_at "go"
      refine ite_b2 (fun c1 => ?_) (fun c1 => ?_)
      · walk_at "go"
        have c := of_decide_eq_true c1
        have hm : movedE a (some l) n = none := if_pos c
        rw [hm] at k
        exact k _ _ _ (Stm.refl e) rfl
      · have c := of_decide_eq_false c1
        have hm : movedE a (some l) n = some ((if a + n > 1 then a + n else 1), some (l + n)) := if_neg c
        rw [hm] at k
        walk_at "go"
        refine ⟨.int l, rfl, ?_⟩
        walk_at "go"
        refine ⟨l, n, rfl, rfl, ?_⟩
        walk_at "go"
        refine ⟨1, a + n, rfl, ?_⟩
        walk_at "go"
        refine tupI e (by show 2 ≤ 1000; decide) fun pt G1 H1 s1 ht => ?_
        walk_at "go"
        exact k _ _ _ s1 ⟨pt, _, _, rfl, ht, rfl, rfl⟩
def sp_moved_block (K : PySem.W.Frag) : Sp := fun vs H Q _ => ∃ G v b r c, vs = [v, .int r, .int c] ∧ Ex G H ∧ IsBlk K G v b ∧ (movedB b r c).all okB = true ∧ ∀ G1 H1 x, St G H G1 H1 → IsL (IsBlk K) G1 x (movedB b r c) → Q x H1
theorem sc_moved_block : FnScope ["block", "rows", "columns", "up", "side"] ["block", "rows", "columns"] (defScope s_moved_block) := ⟨rfl, rfl, rfl, by decide +kernel, rfl, by decide +kernel, by decide +kernel⟩
theorem ok_moved_block (T : TX K mg) : FnOk P w K mg base CX0 6 (f_moved_block K) (fdO K (f_moved_block K)) ["block", "rows", "columns"] (sp_moved_block K) := by
  refine (F_moved_block T).ok sc_moved_block (fun vs H Q E h => ?_) (fun cdv A outer s H vs Q E hr h => ?_)
  · obtain ⟨_, _, _, _, _, rfl, _⟩ := h; rfl
  · obtain ⟨G0, v, b, r, c, rfl, e, hb, hok, k⟩ := h
    refine ⟨_, PSs.nox (pss_cons (ps_set (i := 3) sc_moved_block.nd rfl (by first | exact Or.inl rfl | exact Or.inr rfl) (pe_call (ok_moved_ends T) (hr.mono (by decide)) (by rfl) (g_moved_ends T) (F_moved_ends T).kp (b_moved_ends T) .nil pass0 (pa_cons (fldK (K := K) (pv 0) (by rfl) (by rfl)) (pa_cons (fldK (K := K) (pv 0) (by rfl) (by rfl)) (pa_cons (pv 1) pa_nil)))))
      (pss_cons (ps_set (i := 4) sc_moved_block.nd rfl (by first | exact Or.inl rfl | exact Or.inr rfl) (pe_call (ok_moved_ends T) (hr.mono (by decide)) (by rfl) (g_moved_ends T) (F_moved_ends T).kp (b_moved_ends T) .nil pass0 (pa_cons (fldK (K := K) (pv 0) (by rfl) (by rfl)) (pa_cons (fldK (K := K) (pv 0) (by rfl) (by rfl)) (pa_cons (pv 2) pa_nil)))))
      (pss_cons (ps_if (PW.pt (pw_or (pt_cmpR op_isNG (pv 3) pe_non (nomark _)) (pw_or1 (pt_cmpR op_isNG (pv 4) pe_non (nomark _))))) (pss_one (ps_ret (pe_lst pa_nil))) pss_nil)
      (pss_one (ps_ret (pe_lst (pa_cons (pe_make (mk_Block T) (ok_Block___init__ T) (hr.mono (by decide)) (by rfl) (g_Block T) (b_Block___init___5 T).choose_spec.2 (b_Block___init___5 T).choose_spec.1 pass0 (pa_cons (pe_ix (ixTK (K := K) (by rfl)) (pv 3) pe_int (fun _ _ => rfl)) (pa_cons (pe_ix (ixTK (K := K) (by rfl)) (pv 4) pe_int (fun _ _ => rfl)) (pa_cons (pe_ix (ixTK (K := K) (by rfl)) (pv 3) pe_int (fun _ _ => rfl)) (pa_cons (pe_ix (ixTK (K := K) (by rfl)) (pv 4) pe_int (fun _ _ => rfl)) pa_nil))))) pa_nil))))))), ?_⟩
    walk_at "go"
    refine fB_top T hb e ?_
    walk_at "go"
    refine fB_bottom T hb e ?_
    walk_at "go"
    refine ⟨G0, b.t, b.b, r, rfl, e, fun G1 H1 u1 s1 hu1 => ?_⟩
    walk_at "go"
    have hb1 := IsBlk.mono _ _ _ _ s1.g hb
    refine fB_left T hb1 s1.i ?_
    walk_at "go"
    refine fB_right T hb1 s1.i ?_
    walk_at "go"
    refine ⟨G1, b.l, b.r, c, rfl, s1.i, fun G2 H2 u2 s2 hu2 => ?_⟩
    walk_at "go"
    cases he1 : movedE b.t b.b r with
    | none =>
      rw [he1] at hu1
      cases (show u1 = V.non from hu1)
      have hm : movedB b r c = [] := by unfold movedB; rw [he1]
      rw [hm] at k
      walk_at "go"
      exact lstI s2.i (Nat.zero_le _) fun p G3 H3 s3 g3 => k _ _ _ ((s1.trans s2).trans s3) ⟨p, [], rfl, g3, .nil⟩
    | some u =>
      rw [he1] at hu1
      have hu1' : IsRn G1 u1 u := hu1
      have hu1'' := hu1'
      obtain ⟨pu, x1, y1, rfl, _, _, _⟩ := hu1''
      walk_at "go"
      cases he2 : movedE b.l b.r c with
      | none =>
        rw [he2] at hu2
        cases (show u2 = V.non from hu2)
        have hm : movedB b r c = [] := by unfold movedB; rw [he1, he2]
        rw [hm] at k
        walk_at "go"
        exact lstI s2.i (Nat.zero_le _) fun p G3 H3 s3 g3 => k _ _ _ ((s1.trans s2).trans s3) ⟨p, [], rfl, g3, .nil⟩
      | some z =>
        rw [he2] at hu2
        have hu2' : IsRn G2 u2 z := hu2
        have hu2'' := hu2'
        obtain ⟨pz, x2, y2, rfl, _, _, _⟩ := hu2''
        have hm : movedB b r c = [⟨u.1, z.1, u.2, z.2⟩] := by unfold movedB; rw [he1, he2]
        rw [hm] at k hok
        have hok1 : okB ⟨u.1, z.1, u.2, z.2⟩ = true := by simpa using hok
        have hu3 := IsRn.mono _ _ _ _ s2.g hu1'
        walk_at "go"
        refine x_ixT0 hu3 s2.i fun w1 hw1 => ?_
        cases hw1
        walk_at "go"
        refine x_ixT0 hu2' s2.i fun w2 hw2 => ?_
        cases hw2
        walk_at "go"
        refine x_ixT1 hu3 s2.i fun w3 hw3 => ?_
        cases hw3
        walk_at "go"
        refine x_ixT1 hu2' s2.i fun w4 hw4 => ?_
        cases hw4
        walk_at "go"
        refine mkBlk (b := ⟨u.1, z.1, u.2, z.2⟩) rfl hok1 s2.i fun pb G3 H3 s3 hb3 => ?_
        walk_at "go"
        exact lstI s3.i (by show 1 ≤ 1000; decide) fun p G4 H4 s4 g4 => k _ _ _ (((s1.trans s2).trans s3).trans s4) ⟨p, _, rfl, g4, .cons (IsBlk.mono _ _ _ _ s4.g hb3) .nil⟩
end
end GT

/-! ## K62S -/
set_option Elab.async false
set_option linter.all false
set_option maxRecDepth 100000
set_option maxHeartbeats 400000
namespace GT
open PySem PySem.Spec PyProof.Rows L2 G
local macro_rules | `(tactic| walk_at "ex") => `(tactic| first | exact Ex.refl _ | assumption | exact Stm.g (by assumption) | (refine Ex.trans ?_ (Stm.g (by assumption)); walk_at "ex"))
local macro_rules | `(tactic| walk_at "st") => `(tactic| first | exact Stm.refl (by assumption) | assumption | (refine Stm.trans ?_ (by assumption); walk_at "st"))
local macro_rules | `(tactic| walk_at "i") => `(tactic| first | assumption | exact Stm.i (by assumption))
local macro_rules | `(tactic| walk_at "fact") => `(tactic| first | rfl | exact (rfl : V.non = optV none) | exact (rfl : V.int _ = optV (some _)) | assumption)
local macro_rules | `(tactic| walk_at "g") => `(tactic| first
  | with_reducible refine x_seq ?_
  | with_reducible refine x_next ?_
  | with_reducible refine x_asg ?_
  | with_reducible refine x_ret ?_
  | with_reducible refine x_retN ?_
  | with_reducible refine x_drop ?_
  | with_reducible refine x_ifs ?_
  | ((with_reducible refine' x_var ?hv ?_); (case hv => exact rfl))
  | with_reducible refine x_c ?_
  | with_reducible refine x_op ?_
  | with_reducible refine x_un ?_
  | with_reducible refine x_test ?_
  | with_reducible refine x_B ?_
  | with_reducible refine x_bl ?_
  | with_reducible refine x_and ?_
  | with_reducible refine x_or ?_
  | with_reducible refine x_not ?_
  | with_reducible refine x_andV ?_
  | with_reducible refine x_orV ?_
  | with_reducible refine x_notV ?_
  | with_reducible refine x_ife ?_
  | with_reducible refine x_isN ?_
  | with_reducible refine x_notN ?_
  | with_reducible refine x_nil ?_
  | with_reducible refine x_cons ?_
  | with_reducible refine x_cb ?_
  | with_reducible refine x_call ?_
  | ((with_reducible refine' x_callL ?hv ?_); (case hv => exact rfl))
  | with_reducible refine x_gname ?_
  | with_reducible refine x_I0 ?_
  | ((with_reducible refine' x_eq ?hv ?_); (case hv => exact rfl))
  | ((with_reducible refine' x_ne ?hv ?_); (case hv => exact rfl))
  | with_reducible refine x_tupG ?_
  | with_reducible refine x_lstG ?_
  | with_reducible refine x_lc ?_
  | (with_reducible refine x_U ?_)
  | ((with_reducible refine' ite_T ?hv ?_); (case hv => exact rfl))
  | ((with_reducible refine' ite_F ?hv ?_); (case hv => exact rfl))
  | with_reducible refine x_for ?_
  | with_reducible refine x_iEnum ?_
  | with_reducible refine x_iList ?_
  | with_reducible refine x_iTup ?_
  | with_reducible refine x_gcons ?_
  | with_reducible refine x_gnil ?_
  | with_reducible refine x_bm ?_
  | with_reducible refine x_fldG ?_
  | with_reducible refine x_meth ?_
  | with_reducible refine x_sl ?_
  | with_reducible refine x_nopart ?_
  | with_reducible refine x_part ?_
  | with_reducible refine x_int ?_
  | with_reducible refine x_yes ?_
  | with_reducible refine x_isNG ?_
  | with_reducible refine x_notNG ?_
  | fail "no step")
local macro_rules | `(tactic| walk_at "g2") => `(tactic| first
  | with_reducible refine x_sfld ?_
  | with_reducible refine x_make ?_
  | with_reducible refine x_dnew ?_
  | with_reducible refine x_lcT ?_
  | with_reducible refine x_lcS ?_
  | with_reducible refine x_disp ?_
  | with_reducible refine x_pcons ?_
  | with_reducible refine x_pnil ?_
  | with_reducible refine x_dnewK ?_
  | with_reducible refine x_dput ?_
  | with_reducible refine x_gsub ?_
  | with_reducible refine x_dget2 ?_
  | with_reducible refine x_litems ?_
  | with_reducible refine x_bmX ?_
  | with_reducible refine x_ckw ?_
  | walk_at "g")
local macro_rules | `(tactic| walk_at "go") => `(tactic| repeat' walk_at "g2")

section
variable {P : Program} {w : World} {K : PySem.W.Frag} {mg : Str → Option Value} {base : Heap}
def movedA (xs : List Blk) (r c : Int) : List Blk := xs.flatMap fun b => movedB b r c
def okMove (xs : List Blk) (r c : Int) : Bool := decide (xs.length ≤ 1500) && (movedA xs r c).all okB && okN (movedA xs r c)
theorem movedB_len (b : Blk) (r c : Int) : (movedB b r c).length ≤ 1 := by
  unfold movedB
  split <;> simp
def sp_Area_shifted (K : PySem.W.Frag) : Sp := fun vs H Q _ => ∃ G v xs r c, vs = [v, .int r, .int c] ∧ Ex G H ∧ IsAr K G v xs ∧ okMove xs r c = true ∧ ∀ G1 H1 x, St G H G1 H1 → IsAr K G1 x (norm (movedA xs r c)) → Q x H1
theorem sc_Area_shifted : FnScope ["self", "rows", "columns", "found", "block"] ["self", "rows", "columns"] (defScope s_Area_shifted) := ⟨rfl, rfl, rfl, by decide +kernel, rfl, by decide +kernel, by decide +kernel⟩
theorem ok_Area_shifted (T : TX K mg) : FnOk P w K mg base CX0 9 (f_Area_shifted K) (fdO K (f_Area_shifted K)) ["self", "rows", "columns"] (sp_Area_shifted K) := by
  refine (F_Area_shifted T).ok sc_Area_shifted (fun vs H Q E h => ?_) (fun cdv A outer s H vs Q E hr h => ?_)
  · obtain ⟨_, _, _, _, _, rfl, _⟩ := h; rfl
  · obtain ⟨G0, v, xs, r, c, rfl, e, hv, ok, k⟩ := h
    unfold okMove at ok
    rw [Bool.and_eq_true, Bool.and_eq_true] at ok
    obtain ⟨⟨o1, o2⟩, o3⟩ := ok
    have o1 := of_decide_eq_true o1
    have hbig : 1501 < sizeLine := by decide
    refine ⟨_, PSs.nox (pss_cons (ps_expr (pe_call (ok_checked_move T) (hr.mono (by decide)) (by rfl) (g_checked_move T) (F_checked_move T).kp (b_checked_move T) .nil passN (pa_cons (pv 1) (pa_cons (pv 2) pa_nil))))
      (pss_cons (ps_set (i := 3) sc_Area_shifted.nd rfl (by first | exact Or.inl rfl | exact Or.inr rfl) (pe_lst pa_nil))
      (pss_cons (ps_for PassesOwn.never rfl (pi_list (fldK (K := K) (pv 0) (by rfl) (by rfl))) (pg_name (i := 4) sc_Area_shifted.nd rfl (by first | exact Or.inl rfl | exact Or.inr rfl)) (pss_one (ps_expr (pe_bm PySem.F.plainAttrs_list PySem.F.slot_list_extend PySem.F.type_list_extend mt_extend (pv 3) (pa_cons (pe_call (ok_moved_block T) (hr.mono (by decide)) (by rfl) (g_moved_block T) (F_moved_block T).kp (b_moved_block T) .nil pass0 (pa_cons (pv 4) (pa_cons (pv 1) (pa_cons (pv 2) pa_nil)))) pa_nil)))))
      (pss_one (ps_ret (pe_make (mk_Area T) (ok_Area___init__ T) (hr.mono (by decide)) (by rfl) (g_Area T) (b_Area___init___2 T).choose_spec.2 (b_Area___init___2 T).choose_spec.1 pass0 (pa_cons (pv 3) pa_nil))))))), ?_⟩
    walk_at "go"
    refine ⟨_, _, rfl, Knd.int, Knd.int, fun _ => ?_, fun z => nomatch z⟩
    walk_at "go"
    refine lstM e (Nat.zero_le _) fun pf H1 hpf s1 m1 => ?_
    walk_at "go"
    have hv1 := IsAr.mono _ _ _ _ s1.g hv
    refine fA_form T hv1 s1.i fun q hq => ?_
    have hlen : ∀ i, (movedA (xs.take i) r c).length ≤ xs.length := by
      intro i
      have : ∀ ys : List Blk, (movedA ys r c).length ≤ ys.length := by
        intro ys
        induction ys with
        | nil => exact Nat.le_refl _
        | cons y ys ih =>
          have := movedB_len y r c
          unfold movedA at ih ⊢
          rw [List.flatMap_cons, List.length_append, List.length_cons]
          omega
      refine Nat.le_trans (this _) ?_
      rw [List.length_take]; exact Nat.min_le_right _ _
    refine forG IsBlk.mono hq s1.i (fun i σ' G' H' => ∃ o4 acc, σ' = [some v, some (.int r), some (.int c), some (.ref pf), o4] ∧ Stm [pf] G0 H1 G' H' ∧ Mu G' H' pf (.lst acc) ∧ Paired (IsBlk K G') acc (movedA (xs.take i) r c))
      ⟨none, [], rfl, Stm.refl s1.i, m1, .nil⟩ (fun i σ' G' H' _ ⟨_, _, _, s, _⟩ => ⟨s.g, s.i⟩) ?_ ?_
    · rintro i b w' σ1 G2 H2 hi ⟨o4, acc, rfl, sA, mA2, pA⟩ hw
      walk_at "go"
      refine ⟨x_tyL mA2, ?_⟩
      walk_at "go"
      have hok : (movedB b r c).all okB = true := by
        refine List.all_eq_true.mpr fun y hy => List.all_eq_true.mp o2 y ?_
        exact List.mem_flatMap.mpr ⟨b, List.mem_of_getElem? hi, hy⟩
      refine ⟨G2, _, b, r, c, rfl, sA.i, hw, hok, fun G3 H3 x3 s3 h3 => ?_⟩
      walk_at "go"
      have hl := hlen i
      have hl2 := movedB_len b r c
      refine extL (s3.mu mA2) h3 s3.i (by rw [paired_len pA]; omega) fun H4 ws s4 m4 p4 => ?_
      walk_at "go"
      refine ⟨G3, _, _, rfl, (sA.trans (St.up s3)).trans s4, m4, ?_⟩
      have hmore : movedA (xs.take (i + 1)) r c = movedA (xs.take i) r c ++ movedB b r c := by
        rw [take_more hi]; unfold movedA; rw [List.flatMap_append]; simp
      rw [hmore]
      exact paired_app (paired_imp (fun a b q => IsBlk.mono _ _ a b s3.g q) pA) p4
    · rintro σ' G2 H2 ⟨o4, acc, rfl, sA, mA2, pA⟩
      rw [List.take_length] at pA
      obtain ⟨s6, g6⟩ := freeze mA2 sA.i
      have s7 : St G0 H (upd G2 pf (.lst acc)) H2 := Stm.fresh s1 (sA.trans s6) fun q hq => by rw [List.mem_singleton.mp hq]; exact hpf
      walk_at "go"
      exact mkArea rfl (.inr ⟨pf, acc, rfl, g6, paired_imp (fun a b q => IsBlk.mono _ _ a b s6.g q) pA⟩) o3 s7.i fun p G3 H3 s3 h3 => k _ _ _ (s7.trans s3) h3
end
end GT

/-! ## K62T -/
set_option Elab.async false
set_option linter.all false
set_option maxRecDepth 100000
set_option maxHeartbeats 400000
namespace GT
open PySem PySem.Spec PyProof.Rows L2 G
local macro_rules | `(tactic| walk_at "ex") => `(tactic| first | exact Ex.refl _ | assumption | exact Stm.g (by assumption) | (refine Ex.trans ?_ (Stm.g (by assumption)); walk_at "ex"))
local macro_rules | `(tactic| walk_at "st") => `(tactic| first | exact Stm.refl (by assumption) | assumption | (refine Stm.trans ?_ (by assumption); walk_at "st"))
local macro_rules | `(tactic| walk_at "i") => `(tactic| first | assumption | exact Stm.i (by assumption))
local macro_rules | `(tactic| walk_at "fact") => `(tactic| first | rfl | exact (rfl : V.non = optV none) | exact (rfl : V.int _ = optV (some _)) | assumption)
local macro_rules | `(tactic| walk_at "g") => `(tactic| first
  | with_reducible refine x_seq ?_
  | with_reducible refine x_next ?_
  | with_reducible refine x_asg ?_
  | with_reducible refine x_ret ?_
  | with_reducible refine x_retN ?_
  | with_reducible refine x_drop ?_
  | with_reducible refine x_ifs ?_
  | ((with_reducible refine' x_var ?hv ?_); (case hv => exact rfl))
  | with_reducible refine x_c ?_
  | with_reducible refine x_op ?_
  | with_reducible refine x_un ?_
  | with_reducible refine x_test ?_
  | with_reducible refine x_B ?_
  | with_reducible refine x_bl ?_
  | with_reducible refine x_and ?_
  | with_reducible refine x_or ?_
  | with_reducible refine x_not ?_
  | with_reducible refine x_andV ?_
  | with_reducible refine x_orV ?_
  | with_reducible refine x_notV ?_
  | with_reducible refine x_ife ?_
  | with_reducible refine x_isN ?_
  | with_reducible refine x_notN ?_
  | with_reducible refine x_nil ?_
  | with_reducible refine x_cons ?_
  | with_reducible refine x_cb ?_
  | with_reducible refine x_call ?_
  | ((with_reducible refine' x_callL ?hv ?_); (case hv => exact rfl))
  | with_reducible refine x_gname ?_
  | with_reducible refine x_I0 ?_
  | ((with_reducible refine' x_eq ?hv ?_); (case hv => exact rfl))
  | ((with_reducible refine' x_ne ?hv ?_); (case hv => exact rfl))
  | with_reducible refine x_tupG ?_
  | with_reducible refine x_lstG ?_
  | with_reducible refine x_lc ?_
  | (with_reducible refine x_U ?_)
  | ((with_reducible refine' ite_T ?hv ?_); (case hv => exact rfl))
  | ((with_reducible refine' ite_F ?hv ?_); (case hv => exact rfl))
  | with_reducible refine x_for ?_
  | with_reducible refine x_iEnum ?_
  | with_reducible refine x_iList ?_
  | with_reducible refine x_iTup ?_
  | with_reducible refine x_gcons ?_
  | with_reducible refine x_gnil ?_
  | with_reducible refine x_bm ?_
  | with_reducible refine x_fldG ?_
  | with_reducible refine x_meth ?_
  | with_reducible refine x_sl ?_
  | with_reducible refine x_nopart ?_
  | with_reducible refine x_part ?_
  | with_reducible refine x_int ?_
  | with_reducible refine x_yes ?_
  | with_reducible refine x_isNG ?_
  | with_reducible refine x_notNG ?_
  | fail "no step")
local macro_rules | `(tactic| walk_at "g2") => `(tactic| first
  | with_reducible refine x_sfld ?_
  | with_reducible refine x_make ?_
  | with_reducible refine x_dnew ?_
  | with_reducible refine x_lcT ?_
  | with_reducible refine x_lcS ?_
  | with_reducible refine x_disp ?_
  | with_reducible refine x_pcons ?_
  | with_reducible refine x_pnil ?_
  | with_reducible refine x_dnewK ?_
  | with_reducible refine x_dput ?_
  | with_reducible refine x_gsub ?_
  | with_reducible refine x_dget2 ?_
  | with_reducible refine x_litems ?_
  | with_reducible refine x_bmX ?_
  | with_reducible refine x_ckw ?_
  | walk_at "g")
local macro_rules | `(tactic| walk_at "go") => `(tactic| repeat' walk_at "g2")

section
variable {P : Program} {w : World} {K : PySem.W.Frag} {mg : Str → Option Value} {base : Heap}
/-- a thing that may be a sheet -/
def ShT (K : PySem.W.Frag) (H : Hp) (x : V) (b : Bool) : Prop := ∃ t, TyX K H x t ∧ PySem.W.kitOne K t (.ref (He.ga K "Sheet")) = some b
/-- one of the two is no sheet -/
def sp_unlike (K : PySem.W.Frag) : Sp := fun vs H Q E => ∃ x y b c, vs = [x, y] ∧ ShT K H x b ∧ ShT K H y c ∧ (b && c) = false ∧ E (.ref (He.ga K "NoSheet")) none H
theorem sc_unlike : FnScope ["one", "other", "found", "value", "rest", "second", "area", "block"] ["one", "other"] (defScope s_unlike) := ⟨rfl, rfl, rfl, by decide +kernel, rfl, by decide +kernel, by decide +kernel⟩
theorem ok_unlike (T : TX K mg) : FnOk P w K mg base (L2N.CX P w) 11 (f_unlike K) (fdO K (f_unlike K)) ["one", "other"] (sp_unlike K) := by
  refine (F_unlike T).ok sc_unlike (fun vs H Q E h => ?_) (fun cdv A outer s H vs Q E hr h => ?_)
  · obtain ⟨_, _, _, _, rfl, _⟩ := h; rfl
  · obtain ⟨x, y, b, c, rfl, ⟨t, ty, kt⟩, ⟨u, tu, ku⟩, hbc, k⟩ := h
    refine ⟨_, (pss_cons (ps_expr (pe_call (ok_check_sheet T) (hr.mono (by decide)) (by rfl) (g_check_sheet T) (F_check_sheet T).kp (b_check_sheet T) .nil (passE (L2N.takes_of rfl rfl rfl rfl)) (pa_cons (pv 0) pa_nil)))
      (pss_cons (ps_expr (pe_call (ok_check_sheet T) (hr.mono (by decide)) (by rfl) (g_check_sheet T) (F_check_sheet T).kp (b_check_sheet T) .nil (passE (L2N.takes_of rfl rfl rfl rfl)) (pa_cons (pv 1) pa_nil)))
      (pss_cons ps_never
      (pss_cons ps_never
      (pss_one ps_never))))), ?_⟩
    walk_at "go"
    refine ⟨x, t, b, rfl, ty, kt, fun hb => ?_, fun _ => k⟩
    subst hb
    rw [Bool.true_and] at hbc
    walk_at "go"
    exact ⟨y, u, c, rfl, tu, ku, (fun hc => by rw [hbc] at hc; cases hc), fun _ => k⟩
theorem sc_unlike_area : FnScope ["one", "other", "part"] ["one", "other"] (defScope s_unlike_area) := ⟨rfl, rfl, rfl, by decide +kernel, rfl, by decide +kernel, by decide +kernel⟩
theorem ok_unlike_area (T : TX K mg) : FnOk P w K mg base (L2N.CX P w) 12 (f_unlike_area K) (fdO K (f_unlike_area K)) ["one", "other"] (sp_unlike K) := by
  refine (F_unlike_area T).ok sc_unlike_area (fun vs H Q E h => ?_) (fun cdv A outer s H vs Q E hr h => ?_)
  · obtain ⟨_, _, _, _, rfl, _⟩ := h; rfl
  · obtain ⟨x, y, b, c, rfl, hx, hy, hbc, k⟩ := h
    refine ⟨_, (pss_one (ps_ret (pe_make (mk_Area T) (ok_Area___init__ T) (hr.mono (by decide)) (by rfl) (g_Area T) (b_Area___init___2 T).choose_spec.2 (b_Area___init___2 T).choose_spec.1 pass0 (pa_cons (pe_lc (own := [("part", 2)]) (g := gName 2) (by rfl) sc_unlike_area.nd (pi_list (pe_call (ok_unlike T) (hr.mono (by decide)) (by rfl) (g_unlike T) (F_unlike T).kp (b_unlike T) .nil (passE (L2N.takes_of rfl rfl rfl rfl)) (pa_cons (pv 0) (pa_cons (pv 1) pa_nil)))) (blkOk_by (own := [("part", 2)]) (N := ["one", "other", "part"]) (sc := defScope s_unlike_area) (by decide +kernel)) (fun _ _ _ _ _ => (pg_name (i := 2) sc_unlike_area.nd rfl (by first | exact Or.inl rfl | exact Or.inr rfl))) (fun _ _ _ _ _ => pts_nil) (fun _ _ _ _ _ => (pe_ix (ixTK (K := K) (by rfl)) (pv 2) pe_int (fun _ _ => rfl)))) pa_nil)))), ?_⟩
    walk_at "go"
    exact ⟨x, y, b, c, rfl, hx, hy, hbc, k⟩
end
end GT

/-! ## K62U -/
set_option Elab.async false
set_option linter.all false
set_option maxRecDepth 100000
set_option maxHeartbeats 400000
namespace GT
open PySem PySem.Spec PyProof.Rows L2 G
local macro_rules | `(tactic| walk_at "ex") => `(tactic| first | exact Ex.refl _ | assumption | exact Stm.g (by assumption) | (refine Ex.trans ?_ (Stm.g (by assumption)); walk_at "ex"))
local macro_rules | `(tactic| walk_at "st") => `(tactic| first | exact Stm.refl (by assumption) | assumption | (refine Stm.trans ?_ (by assumption); walk_at "st"))
local macro_rules | `(tactic| walk_at "i") => `(tactic| first | assumption | exact Stm.i (by assumption))
local macro_rules | `(tactic| walk_at "fact") => `(tactic| first | rfl | exact (rfl : V.non = optV none) | exact (rfl : V.int _ = optV (some _)) | assumption)
local macro_rules | `(tactic| walk_at "g") => `(tactic| first
  | with_reducible refine x_seq ?_
  | with_reducible refine x_next ?_
  | with_reducible refine x_asg ?_
  | with_reducible refine x_ret ?_
  | with_reducible refine x_retN ?_
  | with_reducible refine x_drop ?_
  | with_reducible refine x_ifs ?_
  | ((with_reducible refine' x_var ?hv ?_); (case hv => exact rfl))
  | with_reducible refine x_c ?_
  | with_reducible refine x_op ?_
  | with_reducible refine x_un ?_
  | with_reducible refine x_test ?_
  | with_reducible refine x_B ?_
  | with_reducible refine x_bl ?_
  | with_reducible refine x_and ?_
  | with_reducible refine x_or ?_
  | with_reducible refine x_not ?_
  | with_reducible refine x_andV ?_
  | with_reducible refine x_orV ?_
  | with_reducible refine x_notV ?_
  | with_reducible refine x_ife ?_
  | with_reducible refine x_isN ?_
  | with_reducible refine x_notN ?_
  | with_reducible refine x_nil ?_
  | with_reducible refine x_cons ?_
  | with_reducible refine x_cb ?_
  | with_reducible refine x_call ?_
  | ((with_reducible refine' x_callL ?hv ?_); (case hv => exact rfl))
  | with_reducible refine x_gname ?_
  | with_reducible refine x_I0 ?_
  | ((with_reducible refine' x_eq ?hv ?_); (case hv => exact rfl))
  | ((with_reducible refine' x_ne ?hv ?_); (case hv => exact rfl))
  | with_reducible refine x_tupG ?_
  | with_reducible refine x_lstG ?_
  | with_reducible refine x_lc ?_
  | (with_reducible refine x_U ?_)
  | ((with_reducible refine' ite_T ?hv ?_); (case hv => exact rfl))
  | ((with_reducible refine' ite_F ?hv ?_); (case hv => exact rfl))
  | with_reducible refine x_for ?_
  | with_reducible refine x_iEnum ?_
  | with_reducible refine x_iList ?_
  | with_reducible refine x_iTup ?_
  | with_reducible refine x_gcons ?_
  | with_reducible refine x_gnil ?_
  | with_reducible refine x_bm ?_
  | with_reducible refine x_fldG ?_
  | with_reducible refine x_meth ?_
  | with_reducible refine x_sl ?_
  | with_reducible refine x_nopart ?_
  | with_reducible refine x_part ?_
  | with_reducible refine x_int ?_
  | with_reducible refine x_yes ?_
  | with_reducible refine x_isNG ?_
  | with_reducible refine x_notNG ?_
  | fail "no step")
local macro_rules | `(tactic| walk_at "g2") => `(tactic| first
  | with_reducible refine x_sfld ?_
  | with_reducible refine x_make ?_
  | with_reducible refine x_dnew ?_
  | with_reducible refine x_lcT ?_
  | with_reducible refine x_lcS ?_
  | with_reducible refine x_disp ?_
  | with_reducible refine x_pcons ?_
  | with_reducible refine x_pnil ?_
  | with_reducible refine x_dnewK ?_
  | with_reducible refine x_dput ?_
  | with_reducible refine x_gsub ?_
  | with_reducible refine x_dget2 ?_
  | with_reducible refine x_litems ?_
  | with_reducible refine x_bmX ?_
  | with_reducible refine x_ckw ?_
  | walk_at "g")
local macro_rules | `(tactic| walk_at "go") => `(tactic| repeat' walk_at "g2")

section
variable {P : Program} {w : World} {K : PySem.W.Frag} {mg : Str → Option Value} {base : Heap}
/-! ### a sheet laid on a sheet -/
def partsL (hq : Hs) (r c : Int) : List (List Blk × Str) := (hq.filter fun h => !decide (h.1 = Str.ofString "")).map fun h => (norm (movedA h.2 r c), h.1)
def okL : Hs → List (List Blk × Str) → Bool
  | _, [] => true
  | hs, (a, z) :: r => okFill hs a z && (okV z && (decide (z.cps.size ≤ 1000) && okL (fillH hs a z) r))
def laidH (hs : Hs) (ps : List (List Blk × Str)) : Hs := ps.foldl (fun h p => fillH h p.1 p.2) hs
def okLaid (hs hq : Hs) (r c : Int) : Bool := (hq.all fun h => okMove h.2 r c) && okL hs (partsL hq r c) && decide (hq.length ≤ 100)
theorem fillH_kn {hs : Hs} {a : List Blk} {z : Str} (h : kn hs) : kn (fillH hs a z) := filterH_kn (putH_kn (mapH_kn (f := fun c => byA c a fun a b => a && !b) h))
theorem okL_at : ∀ {ps : List (List Blk × Str)} {hs : Hs} {i : Nat} {p : List Blk × Str}, okL hs ps = true → ps[i]? = some p → okFill (laidH hs (ps.take i)) p.1 p.2 = true ∧ okV p.2 = true ∧ p.2.cps.size ≤ 1000
  | (a, z) :: r, hs, 0, p, h, hi => by
    cases hi
    unfold okL at h
    rw [Bool.and_eq_true, Bool.and_eq_true, Bool.and_eq_true] at h
    exact ⟨h.1, h.2.1, of_decide_eq_true h.2.2.1⟩
  | (a, z) :: r, hs, i + 1, p, h, hi => by
    unfold okL at h
    rw [Bool.and_eq_true, Bool.and_eq_true, Bool.and_eq_true] at h
    exact okL_at (ps := r) h.2.2.2 (by simpa using hi)
theorem laid_kn : ∀ (ps : List (List Blk × Str)) {hs : Hs}, kn hs → kn (laidH hs ps)
  | [], _, h => h
  | p :: r, _, h => laid_kn r (fillH_kn h)
def sp_Sheet_laid (K : PySem.W.Frag) : Sp := fun vs H Q E => ∃ G p d kvs hs x r c, vs = [.ref p, x, r, c] ∧ Ex G H ∧ MuS K G H p d kvs ∧ HD K G kvs hs ∧ kn hs ∧ Knd K H r ∧ Knd K H c ∧
  ((ShT K H x false ∧ E (.ref (He.ga K "NoSheet")) none H) ∨
   (ShT K H x true ∧ (isIntV r && isIntV c) = false ∧ E (.ref (He.ga K "NoNumber")) none H) ∨
   (∃ q dq kvq hq ri ci, x = .ref q ∧ r = .int ri ∧ c = .int ci ∧ MuS K G H q dq kvq ∧ HD K G kvq hq ∧ okLaid hs hq ri ci = true ∧
     ∀ G1 H1 d' kvs', Stm [p] G H G1 H1 → MuS K G1 H1 p d' kvs' → HD K G1 kvs' (laidH hs (partsL hq ri ci)) → Q .non H1))
theorem sc_Sheet_laid : FnScope ["self", "other", "rows", "columns", "parts", "area", "value"] ["self", "other", "rows", "columns"] (defScope s_Sheet_laid) := ⟨rfl, rfl, rfl, by decide +kernel, rfl, by decide +kernel, by decide +kernel⟩
theorem ok_Sheet_laid (T : TX K mg) : FnOk P w K mg base (L2N.CX P w) 12 (f_Sheet_laid K) (fdO K (f_Sheet_laid K)) ["self", "other", "rows", "columns"] (sp_Sheet_laid K) := by
  refine (F_Sheet_laid T).ok sc_Sheet_laid (fun vs H Q E h => ?_) (fun cdv A outer s H vs Q E hr h => ?_)
  · obtain ⟨_, _, _, _, _, _, _, _, rfl, _⟩ := h; rfl
  · obtain ⟨G0, p, d, kvs, hs, x, r, c, rfl, e, ms, hD, hk, kr, kc, h⟩ := h
    refine ⟨_, (pss_cons (ps_expr (pe_call (ok_check_sheet T) (hr.mono (by decide)) (by rfl) (g_check_sheet T) (F_check_sheet T).kp (b_check_sheet T) .nil (passE (L2N.takes_of rfl rfl rfl rfl)) (pa_cons (pv 1) pa_nil)))
      (pss_cons (ps_expr (pe_call (ok_checked_move T) (hr.mono (by decide)) (by rfl) (g_checked_move T) (F_checked_move T).kp (b_checked_move T) .nil (passE (L2N.takes_of rfl rfl rfl rfl)) (pa_cons (pv 2) (pa_cons (pv 3) pa_nil))))
      (pss_cons (ps_lock (ps_setLc (i := 4) (own := [("value", 6), ("area", 5)]) (g := gTup K 2 (gCons (gName 6) (gCons (gName 5) gNil))) (by rfl) sc_Sheet_laid.nd rfl rfl (sw_true rfl rfl rfl (by decide +kernel)) (pi_items (fldK (K := K) (pv 1) (by rfl) (by rfl))) (blkOk_by (own := [("value", 6), ("area", 5)]) (N := ["self", "other", "rows", "columns", "parts", "area", "value"]) (sc := defScope s_Sheet_laid) (by decide +kernel)) (fun _ _ _ _ _ => (pg_tup (by rfl) (pgs_cons (pg_name (i := 6) sc_Sheet_laid.nd rfl (by first | exact Or.inl rfl | exact Or.inr rfl)) (pgs_cons (pg_name (i := 5) sc_Sheet_laid.nd rfl (by first | exact Or.inl rfl | exact Or.inr rfl)) pgs_nil)))) (fun _ _ _ _ _ => (pts_one (pt_cmpR op_ne (pv 6) pe_str (nomark _)))) (fun _ _ _ _ _ => (pe_tup (pa_cons (pe_meth (pv 5) (k_Area T) (m_Area_shifted T) (ok_Area_shifted T) (hr.mono (by decide)) (b_Area_shifted_3 T).choose_spec.2 (b_Area_shifted_3 T).choose_spec.1 pass0 (pa_cons (pv 2) (pa_cons (pv 3) pa_nil))) (pa_cons (pv 6) pa_nil))))))
      (pss_one (ps_for (passes_of rfl) rfl (pi_list (pv 4)) (pg_tup (by rfl) (pgs_cons (pg_name (i := 5) sc_Sheet_laid.nd rfl (by first | exact Or.inl rfl | exact Or.inr rfl)) (pgs_cons (pg_name (i := 6) sc_Sheet_laid.nd rfl (by first | exact Or.inl rfl | exact Or.inr rfl)) pgs_nil))) (pss_one (ps_expr (pe_meth (pv 0) (k_Sheet T) (m_Sheet_fill T) (ok_Sheet_fill T) (hr.mono (by decide)) (b_Sheet_fill T) .nil (passE (L2N.takes_of rfl rfl rfl rfl)) (pa_cons (pv 5) (pa_cons (pv 6) pa_nil)))))))))), ?_⟩
    walk_at "go"
    rcases h with ⟨⟨t, ty, kt⟩, hE⟩ | ⟨⟨t, ty, kt⟩, hrc, hE⟩ | ⟨q, dq, kvq, hq, ri, ci, rfl, rfl, rfl, mq, hDq, okl, k⟩
    · exact ⟨x, t, false, rfl, ty, kt, (fun z => by cases z), fun _ => hE⟩
    · refine ⟨x, t, true, rfl, ty, kt, fun _ => ?_, fun z => by cases z⟩
      walk_at "go"
      exact ⟨r, c, rfl, kr, kc, (fun z => by rw [hrc] at z; cases z), fun _ => hE⟩
    · unfold okLaid at okl
      rw [Bool.and_eq_true, Bool.and_eq_true] at okl
      obtain ⟨⟨k1, k2⟩, k3⟩ := okl
      have k3 := of_decide_eq_true k3
      have hz' : hq.length < sizeLine := Nat.lt_of_le_of_lt k3 (by decide)
      obtain ⟨dxq, mqo⟩ := mq.o
      refine ⟨_, _, true, rfl, t_Sheet T mqo.1, i_Sheet_Sheet T, fun _ => ?_, fun z => by cases z⟩
      walk_at "go"
      refine ⟨_, _, rfl, Knd.int, Knd.int, fun _ => ?_, fun z => by cases z⟩
      walk_at "go"
      refine x_lockS ?_
      refine lcI (S := IsT2 (IsAr K) IsS) (IsT2.mono IsAr.mono IsS.mono) (d := dq) (fun H' R hH h => ?_) mq.d hDq e hz' (fun h => !decide (h.1 = Str.ofString "")) (fun h => (norm (movedA h.2 ri ci), h.1)) (fun y w' Tt G2 H2 N0 N1 hy eg ei hw hT n0 n1 => ?_) fun G2 H2 D s2 hL => ?_
      · walk_at "go"
        exact fldG (by rw [hH q mq.ne]; exact mqo.1) (k_Sheet T) (n_Sheet_held T) (shF_held dq) h
      · refine x_gtup (ei _ _ hT) rfl ?_
        walk_at "go"
        refine ⟨rfl, ?_⟩
        walk_at "go"
        have e2 : decide (V.str y.1 = V.str (Str.ofString "")) = decide (y.1 = Str.ofString "") := by
          by_cases c : y.1 = Str.ofString ""
          · rw [decide_eq_true c, decide_eq_true (by rw [c])]
          · rw [decide_eq_false c, decide_eq_false fun q => c (V.str.inj q)]
        rw [e2]
        refine ite_b2 (fun h1 => ?_) (fun h1 => ?_)
        · walk_at "go"
          refine mA hw ei (by decide +kernel) ?_
          walk_at "go"
          refine ⟨G2, _, y.2, ri, ci, rfl, ei, hw, List.all_eq_true.mp k1 y hy, fun G3 H3 x3 s3 h3 => ?_⟩
          walk_at "go"
          refine tupI s3.i (by show 2 ≤ 1000; decide) fun pt G4 H4 s4 ht => ?_
          exact n1 _ _ _ (s3.trans s4) ⟨pt, _, _, rfl, ht, IsAr.mono _ _ _ _ s4.g h3, rfl⟩ h1
        · exact n0 _ _ (Stm.refl ei) h1
      · have ms2 := ms.st s2
        walk_at "go"
        refine forG (R := IsT2 (IsAr K) IsS) (IsT2.mono IsAr.mono IsS.mono) (xs := partsL hq ri ci) hL s2.i (fun i σ' G' H' => ∃ o5 o6 d' kvs', σ' = [some (.ref p), some (.ref q), some (.int ri), some (.int ci), some (.ref D), o5, o6] ∧ Stm [p] G2 H2 G' H' ∧ MuS K G' H' p d' kvs' ∧ HD K G' kvs' (laidH hs ((partsL hq ri ci).take i)))
          ⟨none, none, d, kvs, rfl, Stm.refl s2.i, ms2, hD.mono s2.g⟩ (fun i σ' G' H' _ ⟨_, _, _, _, _, s, _⟩ => ⟨s.g, s.i⟩) ?_ ?_
        · rintro i z w' σ1 G3 H3 hi ⟨o5, o6, d', kvs', rfl, sA, mA3, hA⟩ hw
          refine x_gtup2 hw sA.i fun w1 w2 hw1 hw2 => ?_
          cases hw2
          walk_at "go"
          refine mS mA3 (by decide +kernel) ?_
          walk_at "go"
          obtain ⟨f1, f2, f3⟩ := okL_at k2 hi
          refine ⟨G3, p, d', kvs', _, w1, .str z.2, some z.1, true, rfl, sA.i, mA3, hA, laid_kn _ hk, .inr ⟨z.1, rfl, hw1⟩, .inr ⟨z.2, rfl, f3, f2.symm⟩, (fun q => by cases q), (fun _ _ q => by cases q), fun a y ha hy _ => ?_⟩
          cases ha
          cases hy
          refine ⟨f1, fun G4 H4 d4 kvs4 s4 ms4 hD4 _ => ?_⟩
          walk_at "go"
          refine ⟨G4, _, _, d4, kvs4, rfl, sA.trans s4, ms4, ?_⟩
          have hm := fold_more (f := fun h (p : List Blk × Str) => fillH h p.1 p.2) (b := hs) hi
          unfold laidH at hD4 ⊢
          rw [hm]
          exact hD4
        · rintro σ' G3 H3 ⟨o5, o6, d', kvs', rfl, sA, mA3, hA⟩
          rw [List.take_length] at hA
          walk_at "go"
          exact k G3 H3 d' kvs' ((St.up s2).trans sA) mA3 hA
end
end GT

/-! ## K62V -/
set_option Elab.async false
set_option linter.all false
set_option maxRecDepth 100000
set_option maxHeartbeats 400000
namespace GT
open PySem PySem.Spec PyProof.Rows L2 G
local macro_rules | `(tactic| walk_at "ex") => `(tactic| first | exact Ex.refl _ | assumption | exact Stm.g (by assumption) | (refine Ex.trans ?_ (Stm.g (by assumption)); walk_at "ex"))
local macro_rules | `(tactic| walk_at "st") => `(tactic| first | exact Stm.refl (by assumption) | assumption | (refine Stm.trans ?_ (by assumption); walk_at "st"))
local macro_rules | `(tactic| walk_at "i") => `(tactic| first | assumption | exact Stm.i (by assumption))
local macro_rules | `(tactic| walk_at "fact") => `(tactic| first | rfl | exact (rfl : V.non = optV none) | exact (rfl : V.int _ = optV (some _)) | assumption)
local macro_rules | `(tactic| walk_at "g") => `(tactic| first
  | with_reducible refine x_seq ?_
  | with_reducible refine x_next ?_
  | with_reducible refine x_asg ?_
  | with_reducible refine x_ret ?_
  | with_reducible refine x_retN ?_
  | with_reducible refine x_drop ?_
  | with_reducible refine x_ifs ?_
  | ((with_reducible refine' x_var ?hv ?_); (case hv => exact rfl))
  | with_reducible refine x_c ?_
  | with_reducible refine x_op ?_
  | with_reducible refine x_un ?_
  | with_reducible refine x_test ?_
  | with_reducible refine x_B ?_
  | with_reducible refine x_bl ?_
  | with_reducible refine x_and ?_
  | with_reducible refine x_or ?_
  | with_reducible refine x_not ?_
  | with_reducible refine x_andV ?_
  | with_reducible refine x_orV ?_
  | with_reducible refine x_notV ?_
  | with_reducible refine x_ife ?_
  | with_reducible refine x_isN ?_
  | with_reducible refine x_notN ?_
  | with_reducible refine x_nil ?_
  | with_reducible refine x_cons ?_
  | with_reducible refine x_cb ?_
  | with_reducible refine x_call ?_
  | ((with_reducible refine' x_callL ?hv ?_); (case hv => exact rfl))
  | with_reducible refine x_gname ?_
  | with_reducible refine x_I0 ?_
  | ((with_reducible refine' x_eq ?hv ?_); (case hv => exact rfl))
  | ((with_reducible refine' x_ne ?hv ?_); (case hv => exact rfl))
  | with_reducible refine x_tupG ?_
  | with_reducible refine x_lstG ?_
  | with_reducible refine x_lc ?_
  | (with_reducible refine x_U ?_)
  | ((with_reducible refine' ite_T ?hv ?_); (case hv => exact rfl))
  | ((with_reducible refine' ite_F ?hv ?_); (case hv => exact rfl))
  | with_reducible refine x_for ?_
  | with_reducible refine x_iEnum ?_
  | with_reducible refine x_iList ?_
  | with_reducible refine x_iTup ?_
  | with_reducible refine x_gcons ?_
  | with_reducible refine x_gnil ?_
  | with_reducible refine x_bm ?_
  | with_reducible refine x_fldG ?_
  | with_reducible refine x_meth ?_
  | with_reducible refine x_sl ?_
  | with_reducible refine x_nopart ?_
  | with_reducible refine x_part ?_
  | with_reducible refine x_int ?_
  | with_reducible refine x_yes ?_
  | with_reducible refine x_isNG ?_
  | with_reducible refine x_notNG ?_
  | fail "no step")
local macro_rules | `(tactic| walk_at "g2") => `(tactic| first
  | with_reducible refine x_sfld ?_
  | with_reducible refine x_make ?_
  | with_reducible refine x_dnew ?_
  | with_reducible refine x_lcT ?_
  | with_reducible refine x_lcS ?_
  | with_reducible refine x_disp ?_
  | with_reducible refine x_pcons ?_
  | with_reducible refine x_pnil ?_
  | with_reducible refine x_dnewK ?_
  | with_reducible refine x_dput ?_
  | with_reducible refine x_gsub ?_
  | with_reducible refine x_dget2 ?_
  | with_reducible refine x_litems ?_
  | with_reducible refine x_bmX ?_
  | with_reducible refine x_ckw ?_
  | walk_at "g")
local macro_rules | `(tactic| walk_at "go") => `(tactic| repeat' walk_at "g2")

section
variable {P : Program} {w : World} {K : PySem.W.Frag} {mg : Str → Option Value} {base : Heap}
def sp_law_draw (K : PySem.W.Frag) : Sp := fun vs H Q _ => ∃ G p c n, vs = [.ref p, .int n] ∧ Ex G H ∧ MuW G H p c ∧ 0 ≤ c ∧ c < 1000000 ∧ 0 < n ∧ n < 1073741824 ∧
  ∀ H1 i c', 0 ≤ i → i < n → c ≤ c' → c' ≤ c + 1 → Stm [p] G H G H1 → MuW G H1 p c' → Q (.int i) H1
theorem sc__law_draw : FnScope ["_law_well_here", "_law_many", "_law_found", "_law_number"] ["_law_well_here", "_law_many"] (defScope s__law_draw) := ⟨rfl, rfl, rfl, by decide +kernel, rfl, by decide +kernel, by decide +kernel⟩
theorem ok__law_draw (T : TX K mg) : FnOk P w K mg base CX0 1 (f__law_draw K) (fdO K (f__law_draw K)) ["_law_well_here", "_law_many"] (sp_law_draw K) := by
  refine (F__law_draw T).ok sc__law_draw (fun vs H Q E h => ?_) (fun cdv A outer s H vs Q E hr h => ?_)
  · obtain ⟨_, _, _, _, rfl, _⟩ := h; rfl
  · obtain ⟨G0, p, c, n, rfl, e, ⟨a, b, m, b0, b1⟩, c0, c1, n0, n1, k⟩ := h
    refine ⟨_, PSs.nox (pss_cons (ps_if (pt_cmpR op_gt (pe_ix (ixLK (K := K) (by rfl)) (pv 0) pe_int (fun _ _ => rfl)) pe_int (nomark _)) (pss_cons (ps_set (i := 2) sc__law_draw.nd rfl (by first | exact Or.inl rfl | exact Or.inr rfl) (pe_op op_mod (pe_ix (ixLK (K := K) (by rfl)) (pv 0) pe_int (fun _ _ => rfl)) (pv 1)))
      (pss_cons (ps_asg (pe_op op_fdiv (pe_ix (ixLK (K := K) (by rfl)) (pv 0) pe_int (fun _ _ => rfl)) (pv 1)) (pg_sub (pv 0) pe_int set_list))
      (pss_one (ps_ret (pv 2))))) pss_nil)
      (pss_cons (ps_asg (pe_op op_add (pe_ix (ixLK (K := K) (by rfl)) (pv 0) pe_int (fun _ _ => rfl)) pe_int) (pg_sub (pv 0) pe_int set_list))
      (pss_cons (ps_set (i := 3) sc__law_draw.nd rfl (by first | exact Or.inl rfl | exact Or.inr rfl) (pe_op op_mod (pe_op op_pow (pe_op op_add (pe_op op_add (pe_ix (ixLK (K := K) (by rfl)) (pv 0) pe_int (fun _ _ => rfl)) (pe_op op_mul pe_int (pe_ix (ixLK (K := K) (by rfl)) (pv 0) pe_int (fun _ _ => rfl)))) pe_int) pe_int) pe_int))
      (pss_cons (ps_set (i := 3) sc__law_draw.nd rfl (by first | exact Or.inl rfl | exact Or.inr rfl) (pe_op op_mod (pe_op op_mul (pv 3) (pe_op op_add (pe_op op_fdiv (pv 3) pe_int) pe_int)) pe_int))
      (pss_one (ps_ret (pe_op op_mod (pe_op op_mod (pe_op op_mul (pv 3) (pe_op op_add (pe_op op_fdiv (pv 3) pe_int) pe_int)) pe_int) (pv 1)))))))), ?_⟩
    walk_at "go"
    refine ixW m.1 rfl ?_
    walk_at "go"
    refine ite_b2 (fun h1 => ?_) (fun h1 => ?_)
    · walk_at "go"
      refine ixW m.1 rfl ?_
      walk_at "go"
      refine x_I n0 ?_
      walk_at "go"
      refine ixW m.1 rfl ?_
      walk_at "go"
      refine x_I ⟨n0, n1⟩ ?_
      walk_at "go"
      refine setW m e rfl fun H1 s1 m1 => ?_
      walk_at "go"
      exact k _ _ c (Int.emod_nonneg _ (by omega)) (Int.emod_lt_of_pos _ n0) (Int.le_refl _) (by omega) s1 ⟨_, _, m1, b0, b1⟩
    · walk_at "go"
      refine ixW m.1 rfl ?_
      walk_at "go"
      refine setW m e rfl fun H1 s1 m1 => ?_
      have m1 : Mu G0 H1 p (.lst [.int a, .int b, .int (c + 1)]) := m1
      walk_at "go"
      refine ixW m1.1 rfl ?_
      walk_at "go"
      refine ixW m1.1 rfl ?_
      walk_at "go"
      refine x_I (.inl ⟨by decide, by decide⟩) ?_
      walk_at "go"
      refine x_I ⟨by decide, by decide, ?_⟩ ?_
      · have : (2 : Nat) ^ 64 = 18446744073709551616 := by decide
        omega
      walk_at "go"
      refine x_I (by decide) ?_
      generalize hq : (b + 7919 * (c + 1) + 1) ^ (3 : Int).toNat % 2147483647 = q
      have q0 : 0 ≤ q := by rw [← hq]; exact Int.emod_nonneg _ (by decide)
      have q1 : q < 2147483647 := by rw [← hq]; exact Int.emod_lt_of_pos _ (by decide)
      have big : (2 : Int) ^ 64 = 18446744073709551616 := by decide
      walk_at "go"
      refine x_I ⟨by decide, by decide⟩ ?_
      walk_at "go"
      refine x_I (.inl ⟨by omega, by omega⟩) ?_
      walk_at "go"
      refine x_I (by decide) ?_
      generalize hr2 : q * (q / 1009 + 69621) % 2147483629 = r2
      have r0 : 0 ≤ r2 := by rw [← hr2]; exact Int.emod_nonneg _ (by decide)
      have r1 : r2 < 2147483629 := by rw [← hr2]; exact Int.emod_lt_of_pos _ (by decide)
      walk_at "go"
      refine x_I ⟨by decide, by decide⟩ ?_
      walk_at "go"
      refine x_I (.inl ⟨by omega, by omega⟩) ?_
      walk_at "go"
      refine x_I (by decide) ?_
      walk_at "go"
      refine x_I n0 ?_
      exact k _ _ (c + 1) (Int.emod_nonneg _ (by omega)) (Int.emod_lt_of_pos _ n0) (by omega) (Int.le_refl _) s1 ⟨_, _, m1, b0, b1⟩
end
end GT

/-! ## K62W -/
set_option Elab.async false
set_option linter.all false
set_option maxRecDepth 100000
set_option maxHeartbeats 400000
namespace GT
open PySem PySem.Spec PyProof.Rows L2 G
local macro_rules | `(tactic| walk_at "ex") => `(tactic| first | exact Ex.refl _ | assumption | exact Stm.g (by assumption) | (refine Ex.trans ?_ (Stm.g (by assumption)); walk_at "ex"))
local macro_rules | `(tactic| walk_at "st") => `(tactic| first | exact Stm.refl (by assumption) | assumption | (refine Stm.trans ?_ (by assumption); walk_at "st"))
local macro_rules | `(tactic| walk_at "i") => `(tactic| first | assumption | exact Stm.i (by assumption))
local macro_rules | `(tactic| walk_at "fact") => `(tactic| first | rfl | exact (rfl : V.non = optV none) | exact (rfl : V.int _ = optV (some _)) | assumption)
local macro_rules | `(tactic| walk_at "g") => `(tactic| first
  | with_reducible refine x_seq ?_
  | with_reducible refine x_next ?_
  | with_reducible refine x_asg ?_
  | with_reducible refine x_ret ?_
  | with_reducible refine x_retN ?_
  | with_reducible refine x_drop ?_
  | with_reducible refine x_ifs ?_
  | ((with_reducible refine' x_var ?hv ?_); (case hv => exact rfl))
  | with_reducible refine x_c ?_
  | with_reducible refine x_op ?_
  | with_reducible refine x_un ?_
  | with_reducible refine x_test ?_
  | with_reducible refine x_B ?_
  | with_reducible refine x_bl ?_
  | with_reducible refine x_and ?_
  | with_reducible refine x_or ?_
  | with_reducible refine x_not ?_
  | with_reducible refine x_andV ?_
  | with_reducible refine x_orV ?_
  | with_reducible refine x_notV ?_
  | with_reducible refine x_ife ?_
  | with_reducible refine x_isN ?_
  | with_reducible refine x_notN ?_
  | with_reducible refine x_nil ?_
  | with_reducible refine x_cons ?_
  | with_reducible refine x_cb ?_
  | with_reducible refine x_call ?_
  | ((with_reducible refine' x_callL ?hv ?_); (case hv => exact rfl))
  | with_reducible refine x_gname ?_
  | with_reducible refine x_I0 ?_
  | ((with_reducible refine' x_eq ?hv ?_); (case hv => exact rfl))
  | ((with_reducible refine' x_ne ?hv ?_); (case hv => exact rfl))
  | with_reducible refine x_tupG ?_
  | with_reducible refine x_lstG ?_
  | with_reducible refine x_lc ?_
  | (with_reducible refine x_U ?_)
  | ((with_reducible refine' ite_T ?hv ?_); (case hv => exact rfl))
  | ((with_reducible refine' ite_F ?hv ?_); (case hv => exact rfl))
  | with_reducible refine x_for ?_
  | with_reducible refine x_iEnum ?_
  | with_reducible refine x_iList ?_
  | with_reducible refine x_iTup ?_
  | with_reducible refine x_gcons ?_
  | with_reducible refine x_gnil ?_
  | with_reducible refine x_bm ?_
  | with_reducible refine x_fldG ?_
  | with_reducible refine x_meth ?_
  | with_reducible refine x_sl ?_
  | with_reducible refine x_nopart ?_
  | with_reducible refine x_part ?_
  | with_reducible refine x_int ?_
  | with_reducible refine x_yes ?_
  | with_reducible refine x_isNG ?_
  | with_reducible refine x_notNG ?_
  | fail "no step")
local macro_rules | `(tactic| walk_at "g2") => `(tactic| first
  | with_reducible refine x_sfld ?_
  | with_reducible refine x_make ?_
  | with_reducible refine x_dnew ?_
  | with_reducible refine x_lcT ?_
  | with_reducible refine x_lcS ?_
  | with_reducible refine x_disp ?_
  | with_reducible refine x_pcons ?_
  | with_reducible refine x_pnil ?_
  | with_reducible refine x_dnewK ?_
  | with_reducible refine x_dput ?_
  | with_reducible refine x_gsub ?_
  | with_reducible refine x_dget2 ?_
  | with_reducible refine x_litems ?_
  | with_reducible refine x_bmX ?_
  | with_reducible refine x_ckw ?_
  | walk_at "g")
local macro_rules | `(tactic| walk_at "go") => `(tactic| repeat' walk_at "g2")

section
variable {P : Program} {w : World} {K : PySem.W.Frag} {mg : Str → Option Value} {base : Heap}
def sp_law_well (K : PySem.W.Frag) : Sp := fun vs H Q _ => ∃ G n, vs = [.int n] ∧ Ex G H ∧ ∀ H1 p, H p = none → St G H G H1 → MuW G H1 p 0 → Q (.ref p) H1
theorem sc__law_well : FnScope ["_law_cell"] ["_law_cell"] (defScope s__law_well) := ⟨rfl, rfl, rfl, by decide +kernel, rfl, by decide +kernel, by decide +kernel⟩
theorem ok__law_well (T : TX K mg) : FnOk P w K mg base CX0 1 (f__law_well K) (fdO K (f__law_well K)) ["_law_cell"] (sp_law_well K) := by
  refine (F__law_well T).ok sc__law_well (fun vs H Q E h => ?_) (fun cdv A outer s H vs Q E hr h => ?_)
  · obtain ⟨_, _, rfl, _⟩ := h; rfl
  · obtain ⟨G0, n, rfl, e, k⟩ := h
    refine ⟨_, PSs.nox (pss_one (ps_ret (pe_lst (pa_cons (pe_op op_mul (pv 0) (pe_callTy int1K (by rfl) (z_int T) (by decide +kernel) (pa_cons (pe_cmpR op_ge (pv 0) (pe_op op_pow pe_int pe_int) (nomark _)) pa_nil))) (pa_cons (pe_op op_mod (pv 0) pe_int) (pa_cons pe_int pa_nil)))))), ?_⟩
    walk_at "go"
    refine x_I ⟨by decide, by decide, by decide⟩ ?_
    walk_at "go"
    refine .inr ⟨_, rfl, ?_⟩
    refine x_I (.inr ?_) ?_
    · split <;> decide
    walk_at "go"
    refine x_I (by decide) ?_
    walk_at "go"
    exact lstM e (by show 3 ≤ 1000; decide) fun p H1 hp s1 m1 => k H1 p hp s1 ⟨_, _, m1, Int.emod_nonneg _ (by decide), Int.emod_lt_of_pos _ (by decide)⟩
end
end GT

/-! ## K62X -/
set_option Elab.async false
set_option linter.all false
set_option maxRecDepth 100000
set_option maxHeartbeats 400000
namespace GT
open PySem PySem.Spec PyProof.Rows L2 G
local macro_rules | `(tactic| walk_at "ex") => `(tactic| first | exact Ex.refl _ | assumption | exact Stm.g (by assumption) | (refine Ex.trans ?_ (Stm.g (by assumption)); walk_at "ex"))
local macro_rules | `(tactic| walk_at "st") => `(tactic| first | exact Stm.refl (by assumption) | assumption | (refine Stm.trans ?_ (by assumption); walk_at "st"))
local macro_rules | `(tactic| walk_at "i") => `(tactic| first | assumption | exact Stm.i (by assumption))
local macro_rules | `(tactic| walk_at "fact") => `(tactic| first | rfl | exact (rfl : V.non = optV none) | exact (rfl : V.int _ = optV (some _)) | assumption)
local macro_rules | `(tactic| walk_at "g") => `(tactic| first
  | with_reducible refine x_seq ?_
  | with_reducible refine x_next ?_
  | with_reducible refine x_asg ?_
  | with_reducible refine x_ret ?_
  | with_reducible refine x_retN ?_
  | with_reducible refine x_drop ?_
  | with_reducible refine x_ifs ?_
  | ((with_reducible refine' x_var ?hv ?_); (case hv => exact rfl))
  | with_reducible refine x_c ?_
  | with_reducible refine x_op ?_
  | with_reducible refine x_un ?_
  | with_reducible refine x_test ?_
  | with_reducible refine x_B ?_
  | with_reducible refine x_bl ?_
  | with_reducible refine x_and ?_
  | with_reducible refine x_or ?_
  | with_reducible refine x_not ?_
  | with_reducible refine x_andV ?_
  | with_reducible refine x_orV ?_
  | with_reducible refine x_notV ?_
  | with_reducible refine x_ife ?_
  | with_reducible refine x_isN ?_
  | with_reducible refine x_notN ?_
  | with_reducible refine x_nil ?_
  | with_reducible refine x_cons ?_
  | with_reducible refine x_cb ?_
  | with_reducible refine x_call ?_
  | ((with_reducible refine' x_callL ?hv ?_); (case hv => exact rfl))
  | with_reducible refine x_gname ?_
  | with_reducible refine x_I0 ?_
  | ((with_reducible refine' x_eq ?hv ?_); (case hv => exact rfl))
  | ((with_reducible refine' x_ne ?hv ?_); (case hv => exact rfl))
  | with_reducible refine x_tupG ?_
  | with_reducible refine x_lstG ?_
  | with_reducible refine x_lc ?_
  | (with_reducible refine x_U ?_)
  | ((with_reducible refine' ite_T ?hv ?_); (case hv => exact rfl))
  | ((with_reducible refine' ite_F ?hv ?_); (case hv => exact rfl))
  | with_reducible refine x_for ?_
  | with_reducible refine x_iEnum ?_
  | with_reducible refine x_iList ?_
  | with_reducible refine x_iTup ?_
  | with_reducible refine x_gcons ?_
  | with_reducible refine x_gnil ?_
  | with_reducible refine x_bm ?_
  | with_reducible refine x_fldG ?_
  | with_reducible refine x_meth ?_
  | with_reducible refine x_sl ?_
  | with_reducible refine x_nopart ?_
  | with_reducible refine x_part ?_
  | with_reducible refine x_int ?_
  | with_reducible refine x_yes ?_
  | with_reducible refine x_isNG ?_
  | with_reducible refine x_notNG ?_
  | fail "no step")
local macro_rules | `(tactic| walk_at "g2") => `(tactic| first
  | with_reducible refine x_sfld ?_
  | with_reducible refine x_make ?_
  | with_reducible refine x_dnew ?_
  | with_reducible refine x_lcT ?_
  | with_reducible refine x_lcS ?_
  | with_reducible refine x_disp ?_
  | with_reducible refine x_pcons ?_
  | with_reducible refine x_pnil ?_
  | with_reducible refine x_dnewK ?_
  | with_reducible refine x_dput ?_
  | with_reducible refine x_gsub ?_
  | with_reducible refine x_dget2 ?_
  | with_reducible refine x_litems ?_
  | with_reducible refine x_bmX ?_
  | with_reducible refine x_ckw ?_
  | with_reducible refine L2Z.x_methS ?_
  | with_reducible refine L2Z.x_methN ?_
  | with_reducible refine x_callSD ?_
  | with_reducible refine x_lcZ ?_
  | walk_at "g")
local macro_rules | `(tactic| walk_at "go") => `(tactic| repeat' walk_at "g2")

section
variable {P : Program} {w : World} {K : PySem.W.Frag} {mg : Str → Option Value} {base : Heap}
theorem kb_Sheet_laid_2_columns (T : TX K mg) : ∃ its : List Value, KBn K (fdO K (f_Sheet_laid K)) ["self", "other", "rows", "columns"] 2 ["columns"] (fun us ws => us ++ (its.take 1 ++ ws)) (fun vs zs => vs ++ ([V.int 0, V.int 0].take 1 ++ zs)) :=
  (F_Sheet_laid T).kbinds1 2 ["columns"] (fun a b c => a ++ (b.take 1 ++ c)) (by decide) (fun r1 r2 r3 => r1.append ((r2.take 1).append r3)) fun _ _ _ _ _ _ _ us its ws hl hi hw => match us, its, ws, hl, hi, hw with | [_, _], [_, _], [_], _, _, _ => ⟨_, rfl, rfl⟩
def suiteOf : List Stmt → List Stmt
  | .Try _ (.ExceptHandler _ _ b _ :: _) _ _ _ :: _ => b
  | _ => []
theorem sc__law_said : FnScope ["_law_way", "_law_sheet", "_law_one", "_law_other", "e", "_law_some", "_law_words", "_law_word", "_law_good"] ["_law_way", "_law_sheet", "_law_one", "_law_other"] (defScope s__law_said) := ⟨rfl, rfl, rfl, by decide +kernel, rfl, by decide +kernel, by decide +kernel⟩
/-- the words of the classes of a caught error -/
def words (b : List Bool) : List Str := ((["area", "value", "cell", "change", "sheet", "number", "strange"] : List Str).zip b).filterMap fun z => if z.2 then some z.1 else none
structure SaidE (K : PySem.W.Frag) (D : Addr) (b1 b2 b3 b4 b5 b6 : Bool) : Prop where
  c : ExcC K D
  k1 : PySem.W.kitOne K (.ref D) (.ref (He.ga K "NoArea")) = some b1
  k2 : PySem.W.kitOne K (.ref D) (.ref (He.ga K "NoValue")) = some b2
  k3 : PySem.W.kitOne K (.ref D) (.ref (He.ga K "NoCell")) = some b3
  k4 : PySem.W.kitOne K (.ref D) (.ref (He.ga K "NoChange")) = some b4
  k5 : PySem.W.kitOne K (.ref D) (.ref (He.ga K "NoSheet")) = some b5
  k6 : PySem.W.kitOne K (.ref D) (.ref (He.ga K "NoNumber")) = some b6
  k7 : PySem.W.kitOne K (.ref D) (.type "ValueError") = some true
  k8 : PySem.W.exmOne K (.ref D) (.ref (He.ga K "CellError")) = some true
theorem said_suite (T : TX K mg) {cdv : Value} {A : Around} {outer : List Env} {s : Shared} {H0 : Hp} {E : XK} : ∃ ts : Addr → Value → Option Addr → TS,
    (∀ (a : Addr) (oe : Obj) (cls : Value) (d : Option Addr) (pn : List (Addr × Obj)), L2N.Zn cls d oe → (∃ vs, oe.data = .fields vs) → PSs ((cxOf CX0 P w K mg base ["_law_way", "_law_sheet", "_law_one", "_law_other", "e", "_law_some", "_law_words", "_law_word", "_law_good"] "_law_said" (defScope s__law_said) (f__law_said K) cdv A outer s H0 E).suite a ((a, oe) :: pn)) (suiteOf (defBody s__law_said)) (ts a cls d)) ∧
    ∀ (a D : Addr) (b1 b2 b3 b4 b5 b6 : Bool) (G H : Hp) (v0 v1 v2 v3 : Option V) (En : Ends), SaidE K D b1 b2 b3 b4 b5 b6 → Ex G H → (∀ G1 H1 r, St G H G1 H1 → IsL IsS G1 r (words [b1, b2, b3, b4, b5, b6, false]) → En.rt r H1) → ts a (.ref D) none En [v0, v1, v2, v3, some (.ref a), none, none, none, none] H := by
  refine ⟨_, fun a oe cls d pn hz hf => (pss_cons (ps_set (i := 5) sc__law_said.nd rfl (by first | exact Or.inl rfl | exact Or.inr rfl) (pe_lst (pa_cons (pe_callB (L2Z.call_isK (K := K) (by rfl) hz hf) (by rfl) (z_isinstance T) PyProof.Rows.boot_isinstance (pa_cons (pv 4) (pa_cons (pe_glob (v := .ref (He.ga K "NoArea")) (by rfl) (g_NoArea T) rfl) pa_nil))) (pa_cons (pe_callB (L2Z.call_isK (K := K) (by rfl) hz hf) (by rfl) (z_isinstance T) PyProof.Rows.boot_isinstance (pa_cons (pv 4) (pa_cons (pe_glob (v := .ref (He.ga K "NoValue")) (by rfl) (g_NoValue T) rfl) pa_nil))) (pa_cons (pe_callB (L2Z.call_isK (K := K) (by rfl) hz hf) (by rfl) (z_isinstance T) PyProof.Rows.boot_isinstance (pa_cons (pv 4) (pa_cons (pe_glob (v := .ref (He.ga K "NoCell")) (by rfl) (g_NoCell T) rfl) pa_nil))) (pa_cons (pe_callB (L2Z.call_isK (K := K) (by rfl) hz hf) (by rfl) (z_isinstance T) PyProof.Rows.boot_isinstance (pa_cons (pv 4) (pa_cons (pe_glob (v := .ref (He.ga K "NoChange")) (by rfl) (g_NoChange T) rfl) pa_nil))) pa_nil))))))
      (pss_cons (ps_set (i := 5) sc__law_said.nd rfl (by first | exact Or.inl rfl | exact Or.inr rfl) (pe_op op_cat (pv 5) (pe_lst (pa_cons (pe_callB (L2Z.call_isK (K := K) (by rfl) hz hf) (by rfl) (z_isinstance T) PyProof.Rows.boot_isinstance (pa_cons (pv 4) (pa_cons (pe_glob (v := .ref (He.ga K "NoSheet")) (by rfl) (g_NoSheet T) rfl) pa_nil))) (pa_cons (pe_callB (L2Z.call_isK (K := K) (by rfl) hz hf) (by rfl) (z_isinstance T) PyProof.Rows.boot_isinstance (pa_cons (pv 4) (pa_cons (pe_glob (v := .ref (He.ga K "NoNumber")) (by rfl) (g_NoNumber T) rfl) pa_nil))) (pa_cons (pe_not (pe_callB (L2Z.call_isK (K := K) (by rfl) hz hf) (by rfl) (z_isinstance T) PyProof.Rows.boot_isinstance (pa_cons (pv 4) (pa_cons (pe_bltn (v := .ty "ValueError") (by rfl) (z_ValueError T) (by decide +kernel) rfl) pa_nil)))) pa_nil))))))
      (pss_cons (ps_set (i := 6) sc__law_said.nd rfl (by first | exact Or.inl rfl | exact Or.inr rfl) (pe_lst (pa_cons pe_str (pa_cons pe_str (pa_cons pe_str (pa_cons pe_str (pa_cons pe_str (pa_cons pe_str (pa_cons pe_str pa_nil)))))))))
      (pss_one (ps_ret (L2Z.pe_lcZK (K := K) (own := [("_law_word", 7), ("_law_good", 8)]) (g := gTup K 2 (gCons (gName 7) (gCons (gName 8) gNil))) (by rfl) (L2Z.hotC_of hz hf rfl List.mem_cons_self) sc__law_said.nd (by rfl) (z_zip T) (pa_cons (pv 6) (pa_cons (pv 5) pa_nil)) (blkOk_by (own := [("_law_word", 7), ("_law_good", 8)]) (N := ["_law_way", "_law_sheet", "_law_one", "_law_other", "e", "_law_some", "_law_words", "_law_word", "_law_good"]) (sc := defScope s__law_said) (by decide +kernel)) (fun _ _ _ _ _ => (L2Z.pg_tupZ (L2Z.hotC_of hz hf rfl List.mem_cons_self) (pgs_cons (pg_name (i := 7) sc__law_said.nd rfl (by first | exact Or.inl rfl | exact Or.inr rfl)) (pgs_cons (pg_name (i := 8) sc__law_said.nd rfl (by first | exact Or.inl rfl | exact Or.inr rfl)) pgs_nil)))) (fun _ _ _ _ _ => (pts_one (pt_val (pv 8)))) (fun _ _ _ _ _ => (pv 7)))))))), fun a D b1 b2 b3 b4 b5 b6 G0 H v0 v1 v2 v3 En S e k => ?_⟩
  walk_at "go"
  refine isX S.c S.k1 ?_
  walk_at "go"
  refine isX S.c S.k2 ?_
  walk_at "go"
  refine isX S.c S.k3 ?_
  walk_at "go"
  refine isX S.c S.k4 ?_
  walk_at "go"
  refine lstI e (by show 4 ≤ 1000; decide) fun p1 G1 H1 s1 g1 => ?_
  have h1 : IsL IsB G1 (.ref p1) [b1, b2, b3, b4] := ⟨p1, _, rfl, g1, .cons rfl (.cons rfl (.cons rfl (.cons rfl .nil)))⟩
  walk_at "go"
  refine isX S.c S.k5 ?_
  walk_at "go"
  refine isX S.c S.k6 ?_
  walk_at "go"
  refine isXT S.c S.k7 ?_
  walk_at "go"
  refine lstI s1.i (by show 3 ≤ 1000; decide) fun p2 G2 H2 s2 g2 => ?_
  have h2 : IsL IsB G2 (.ref p2) [b5, b6, false] := ⟨p2, _, rfl, g2, .cons rfl (.cons rfl (.cons rfl .nil))⟩
  walk_at "go"
  refine catL IsB.mono (IsL.mono IsB.mono _ _ _ _ s2.g h1) h2 s2.i (by show 7 ≤ sizeLine; decide) fun p3 G3 H3 s3 h3 => ?_
  walk_at "go"
  refine lstI s3.i (by show 7 ≤ 1000; decide) fun p4 G4 H4 s4 g4 => ?_
  have h4 : IsL IsS G4 (.ref p4) ["area", "value", "cell", "change", "sheet", "number", "strange"] := ⟨p4, _, rfl, g4, .cons rfl (.cons rfl (.cons rfl (.cons rfl (.cons rfl (.cons rfl (.cons rfl .nil))))))⟩
  walk_at "go"
  refine lcZip (R := IsS) (S := IsB) (T := IsS) IsS.mono IsB.mono IsS.mono (fun z => z.2) (fun z => z.1) s4.i h4 (IsL.mono IsB.mono _ _ _ _ s4.g h3) (by show 7 ≤ 7; decide) (by show 7 < sizeLine; decide) (fun z w1 w2 Tt G5 H5 N0 N1 s5 hw1 hw2 hT n0 n1 => ?_) fun G5 H5 D5 s5 h5 => ?_
  · cases hw1
    cases hw2
    refine x_gtup (s5.i _ _ hT) rfl ?_
    walk_at "go"
    refine ⟨rfl, ?_⟩
    walk_at "go"
    refine ite_b2 (fun c => ?_) (fun c => ?_)
    · walk_at "go"
      exact n1 _ _ _ (Stm.refl s5.i) rfl c
    · exact n0 _ _ (Stm.refl s5.i) c
  · refine k G5 H5 _ ((((s1.trans s2).trans s3).trans s4).trans s5) ?_
    have e1 : words [b1, b2, b3, b4, b5, b6, false] = (((["area", "value", "cell", "change", "sheet", "number", "strange"] : List Str).zip ([b1, b2, b3, b4] ++ [b5, b6, false])).filter fun z => z.2).map fun z => z.1 := by
      cases b1 <;> cases b2 <;> cases b3 <;> cases b4 <;> cases b5 <;> cases b6 <;> rfl
    rw [e1]
    exact h5
theorem saidE_NoArea (T : TX K mg) : SaidE K (He.ga K "NoArea") true false false false false false := ⟨ec_NoArea T, ie_NoArea_NoArea T, ie_NoArea_NoValue T, ie_NoArea_NoCell T, ie_NoArea_NoChange T, ie_NoArea_NoSheet T, ie_NoArea_NoNumber T, iv_NoArea T, x_NoArea_CellError T⟩
theorem saidE_NoValue (T : TX K mg) : SaidE K (He.ga K "NoValue") false true false false false false := ⟨ec_NoValue T, ie_NoValue_NoArea T, ie_NoValue_NoValue T, ie_NoValue_NoCell T, ie_NoValue_NoChange T, ie_NoValue_NoSheet T, ie_NoValue_NoNumber T, iv_NoValue T, x_NoValue_CellError T⟩
theorem saidE_NoCell (T : TX K mg) : SaidE K (He.ga K "NoCell") false false true false false false := ⟨ec_NoCell T, ie_NoCell_NoArea T, ie_NoCell_NoValue T, ie_NoCell_NoCell T, ie_NoCell_NoChange T, ie_NoCell_NoSheet T, ie_NoCell_NoNumber T, iv_NoCell T, x_NoCell_CellError T⟩
theorem saidE_NoChange (T : TX K mg) : SaidE K (He.ga K "NoChange") false false false true false false := ⟨ec_NoChange T, ie_NoChange_NoArea T, ie_NoChange_NoValue T, ie_NoChange_NoCell T, ie_NoChange_NoChange T, ie_NoChange_NoSheet T, ie_NoChange_NoNumber T, iv_NoChange T, x_NoChange_CellError T⟩
theorem saidE_NoSheet (T : TX K mg) : SaidE K (He.ga K "NoSheet") false false false false true false := ⟨ec_NoSheet T, ie_NoSheet_NoArea T, ie_NoSheet_NoValue T, ie_NoSheet_NoCell T, ie_NoSheet_NoChange T, ie_NoSheet_NoSheet T, ie_NoSheet_NoNumber T, iv_NoSheet T, x_NoSheet_CellError T⟩
theorem saidE_NoNumber (T : TX K mg) : SaidE K (He.ga K "NoNumber") false false false false false true := ⟨ec_NoNumber T, ie_NoNumber_NoArea T, ie_NoNumber_NoValue T, ie_NoNumber_NoCell T, ie_NoNumber_NoChange T, ie_NoNumber_NoSheet T, ie_NoNumber_NoNumber T, iv_NoNumber T, x_NoNumber_CellError T⟩
theorem mSS {G H : Hp} {p d : Addr} {kvs : List (Key × V)} {m : Str} {sp : Sp} {dvs : List V} {E : L2.St → XK} {t : TA} {σ : L2.St} {Q : VK} (ms : MuS K G H p d kvs) (hm : ¬ m = "held") (h : t σ H fun vs H2 => sp (.ref p :: (vs ++ dvs)) H2 Q (E σ)) : L2Z.MethGoS (He.ga K "Sheet") m sp dvs E t σ (.ref p) H Q := by
  obtain ⟨dx, hp⟩ := ms.o
  exact ⟨p, dx, shF d, rfl, hp.1, shF_no d hm, h⟩
theorem mSN {G H : Hp} {p d : Addr} {kvs : List (Key × V)} {m : Str} {n mm : Nat} {sp : Sp} {gV : List V → List V → List V} {E : L2.St → XK} {t tk : TA} {σ : L2.St} {Q : VK} (ms : MuS K G H p d kvs) (hm : ¬ m = "held")
    (h : t σ H fun vs H2 => tk σ H2 fun zs H3 => (V.ref p :: vs).length = n ∧ zs.length = mm ∧ sp (gV (.ref p :: vs) zs) H3 Q (E σ)) : L2Z.MethGoN (He.ga K "Sheet") m n mm sp gV E t tk σ (.ref p) H Q := by
  obtain ⟨dx, hp⟩ := ms.o
  exact ⟨p, dx, shF d, rfl, hp.1, shF_no d hm, h⟩
theorem shT_sheet {G H : Hp} (T : TX K mg) {p d : Addr} {kvs : List (Key × V)} (ms : MuS K G H p d kvs) : ShT K H (.ref p) true := by
  obtain ⟨dx, hp⟩ := ms.o
  exact ⟨_, t_Sheet T hp.1, i_Sheet_Sheet T⟩
/-- what _law_said answers: Rf w: a list of the one word w, nothing is changed -/
def sp_law_said (K : PySem.W.Frag) : Sp := fun vs H Q _ => ∃ G n p d kvs hs x y, vs = [.int n, .ref p, x, y] ∧ Ex G H ∧ MuS K G H p d kvs ∧ HD K G kvs hs ∧ kn hs ∧
  ((n = 0 ∧ ∃ o b, AreaT K G x o ∧ ValT K G y b ∧ (o = none → ∀ G1 H1 r, St G H G1 H1 → IsL IsS G1 r ["area"] → Q r H1) ∧ (∀ a, o = some a → b = false → ∀ G1 H1 r, St G H G1 H1 → IsL IsS G1 r ["value"] → Q r H1) ∧
      (∀ a z, o = some a → y = .str z → b = true → okFill hs a z = true ∧ ∀ G1 H1 d' kvs' r, Stm [p] G H G1 H1 → MuS K G1 H1 p d' kvs' → HD K G1 kvs' (fillH hs a z) → H d' = none → IsL IsS G1 r ["taken"] → Q r H1)) ∨
   (n = 1 ∧ CellT K G x false ∧ hs.length ≤ 100 ∧ szH hs = true ∧ ∀ G1 H1 r, St G H G1 H1 → IsL IsS G1 r ["cell"] → Q r H1) ∨
   (n = 2 ∧ ValT K G x false ∧ ∀ G1 H1 r, St G H G1 H1 → IsL IsS G1 r ["value"] → Q r H1) ∨
   (n = 3 ∧ (∃ t, Od K G x t ∧ PySem.W.kitOne K t (.ref (He.ga K "Change")) = some false) ∧ ∀ G1 H1 r, St G H G1 H1 → IsL IsS G1 r ["change"] → Q r H1) ∨
   (n = 4 ∧ Knd K H y ∧ ((ShT K H x false ∧ ∀ G1 H1 r, St G H G1 H1 → IsL IsS G1 r ["sheet"] → Q r H1) ∨ (ShT K H x true ∧ isIntV y = false ∧ ∀ G1 H1 r, St G H G1 H1 → IsL IsS G1 r ["number"] → Q r H1) ∨
      (∃ q dq kvq hq ri, x = .ref q ∧ y = .int ri ∧ MuS K G H q dq kvq ∧ HD K G kvq hq ∧ okLaid hs hq ri 0 = true ∧
        ∀ G1 H1 d' kvs' r, Stm [p] G H G1 H1 → MuS K G1 H1 p d' kvs' → HD K G1 kvs' (laidH hs (partsL hq ri 0)) → IsL IsS G1 r ["taken"] → Q r H1))) ∨
   (n = 5 ∧ Knd K H y ∧ ShT K H x true ∧ isIntV y = false ∧ ∀ G1 H1 r, St G H G1 H1 → IsL IsS G1 r ["number"] → Q r H1) ∨
   ((n = 6 ∨ n = 7 ∨ n = 8 ∨ n = 9) ∧ ShT K H x false ∧ (∀ G' H', St G H G' H' → ShT K H' x false) ∧ ∀ G1 H1 r, St G H G1 H1 → IsL IsS G1 r ["sheet"] → Q r H1))
theorem ok__law_said (T : TX K mg) : FnOk P w K mg base CX0 13 (f__law_said K) (fdO K (f__law_said K)) ["_law_way", "_law_sheet", "_law_one", "_law_other"] (sp_law_said K) := by
  refine (F__law_said T).ok sc__law_said (fun vs H Q E h => ?_) (fun cdv A outer s H vs Q E hr h => ?_)
  · obtain ⟨_, _, _, _, _, _, _, _, rfl, _⟩ := h; rfl
  · obtain ⟨G0, n, p, d, kvs, hs, x, y, rfl, e, ms, hD, hk, h⟩ := h
    obtain ⟨ts, hsu, hts⟩ := said_suite (P := P) (w := w) (K := K) (mg := mg) (base := base) T (cdv := cdv) (A := A) (outer := outer) (s := s) (H0 := H) (E := E)
    refine ⟨_, (pss_one (L2N.ps_try_as (i := 4) rfl rfl sc__law_said.nd rfl rfl ⟨rfl, by decide, .inl (g_CellError T)⟩ takesN0 (fun W pn xe tk _ => (pss_cons (ps_if (pt_cmpR op_eq (pv 0) pe_int (nomark _)) (pss_one (ps_expr (L2Z.pe_methSD (pv 1) (k_Sheet T) (m_Sheet_fill T) (ok_Sheet_fill T) (hr.mono (by decide)) (b_Sheet_fill T) .nil (fun σ => L2N.passAt tk σ) (pa_cons (pv 2) (pa_cons (pv 3) pa_nil))))) (pss_one (ps_if (pt_cmpR op_eq (pv 0) pe_int (nomark _)) (pss_one (ps_expr (L2Z.pe_methSD (pv 1) (k_Sheet T) (m_Sheet_value T) (ok_Sheet_value T) (hr.mono (by decide)) (b_Sheet_value T) .nil (fun σ => L2N.passAt tk σ) (pa_cons (pv 2) pa_nil)))) (pss_one (ps_if (pt_cmpR op_eq (pv 0) pe_int (nomark _)) (pss_one (ps_expr (L2Z.pe_methSD (pv 1) (k_Sheet T) (m_Sheet_where T) (ok_Sheet_where T) (hr.mono (by decide)) (b_Sheet_where T) .nil (fun σ => L2N.passAt tk σ) (pa_cons (pv 2) pa_nil)))) (pss_one (ps_if (pt_cmpR op_eq (pv 0) pe_int (nomark _)) (pss_one (ps_expr (L2Z.pe_methSD (pv 1) (k_Sheet T) (m_Sheet_change T) (ok_Sheet_change T) (hr.mono (by decide)) (b_Sheet_change T) .nil (fun σ => L2N.passAt tk σ) (pa_cons (pv 2) pa_nil)))) (pss_one (ps_if (pt_cmpR op_eq (pv 0) pe_int (nomark _)) (pss_one (ps_expr (L2Z.pe_methSD (pv 1) (k_Sheet T) (m_Sheet_laid T) (ok_Sheet_laid T) (hr.mono (by decide)) (b_Sheet_laid_3 T).choose_spec.2 (b_Sheet_laid_3 T).choose_spec.1 (fun σ => L2N.passAt tk σ) (pa_cons (pv 2) (pa_cons (pv 3) pa_nil))))) (pss_one (ps_if (pt_cmpR op_eq (pv 0) pe_int (nomark _)) (pss_one (ps_expr (L2Z.pe_methND (pv 1) (k_Sheet T) (m_Sheet_laid T) (ok_Sheet_laid T) (hr.mono (by decide)) (kb_Sheet_laid_2_columns T).choose_spec (fun σ => L2N.passAt tk σ) (pa_cons (pv 2) pa_nil) (pk_cons (pv 3) pk_nil)))) (pss_one (ps_if (pt_cmpR op_eq (pv 0) pe_int (nomark _)) (pss_one (ps_expr (pe_callSD (ok_unlike T) (hr.mono (by decide)) (by rfl) (g_unlike T) (F_unlike T).kp (b_unlike T) .nil (fun σ => L2N.passAt tk σ) (pa_cons (pv 1) (pa_cons (pv 2) pa_nil))))) (pss_one (ps_if (pt_cmpR op_eq (pv 0) pe_int (nomark _)) (pss_one (ps_expr (pe_callSD (ok_unlike T) (hr.mono (by decide)) (by rfl) (g_unlike T) (F_unlike T).kp (b_unlike T) .nil (fun σ => L2N.passAt tk σ) (pa_cons (pv 2) (pa_cons (pv 1) pa_nil))))) (pss_one (ps_expr (pe_callSD (ok_unlike_area T) (hr.mono (by decide)) (by rfl) (g_unlike_area T) (F_unlike_area T).kp (b_unlike_area T) .nil (fun σ => L2N.passAt tk σ) (pa_cons (pe_ix (ixLK (K := K) (by rfl)) (pe_lst (pa_cons (pv 1) (pa_cons (pv 2) pa_nil))) (pe_op op_mod (pv 0) pe_int) (fun _ _ => rfl)) (pa_cons (pe_ix (ixLK (K := K) (by rfl)) (pe_lst (pa_cons (pv 2) (pa_cons (pv 1) pa_nil))) (pe_op op_mod (pv 0) pe_int) (fun _ _ => rfl)) pa_nil))))))))))))))))))))
      (pss_one (ps_ret (pe_lst (pa_cons pe_str pa_nil)))))) hsu)), ?_⟩
    have hE : ∀ {D : Addr} {b1 b2 b3 b4 b5 b6 : Bool} (S : SaidE K D b1 b2 b3 b4 b5 b6) {G1 H1 : Hp} (s1 : St G0 H G1 H1) {W0 : WX} {En : Ends} {v0 v1 v2 v3 : Option V} (hw : ∀ G2 H2 r, St G0 H G2 H2 → IsL IsS G2 r (words [b1, b2, b3, b4, b5, b6, false]) → En.rt r H2),
        wAs K (.ref (He.ga K "CellError")) 4 ts W0 En (.ref D) none [v0, v1, v2, v3, none, none, none, none, none] H1 :=
      by
      intro D b1 b2 b3 b4 b5 b6 S G1 H1 s1 W0 En v0 v1 v2 v3 hw
      exact ⟨true, S.k8, fun _ a ha => hts a _ _ _ _ _ _ _ G1 H1 _ _ _ _ _ S s1.i (fun G2 H2 r s2 h2 => hw G2 H2 r (s1.trans s2) h2), fun z => nomatch z⟩
    rcases h with ⟨rfl, o, b, hx, hy, k1, k2, k3⟩ | ⟨rfl, hx, hz, hsz, k1⟩ | ⟨rfl, hx, k1⟩ | ⟨rfl, ⟨t, ot, kt⟩, k1⟩ | ⟨rfl, ky, h⟩ | ⟨rfl, ky, hx, hi, k1⟩ | ⟨hn, hx, hx2, k1⟩
    · walk_at "go"
      refine mSS ms (by decide +kernel) ?_
      walk_at "go"
      refine ⟨G0, p, d, kvs, hs, x, y, o, b, rfl, e, ms, hD, hk, hx, hy, fun ho G1 H1 s1 => hE (saidE_NoArea T) s1 (k1 ho), fun a ho hb G1 H1 s1 => hE (saidE_NoValue T) s1 (k2 a ho hb), fun a z ho hz hb => ?_⟩
      obtain ⟨f, k⟩ := k3 a z ho hz hb
      refine ⟨f, fun G1 H1 d' kvs' s1 ms1 hD1 hd' => ?_⟩
      walk_at "go"
      refine lstI s1.i (by show 1 ≤ 1000; decide) fun p1 G2 H2 s2 g2 => ?_
      exact k G2 H2 d' kvs' _ (s1.trans (St.up s2)) (ms1.st s2) (hD1.mono s2.g) hd' ⟨p1, _, rfl, g2, .cons rfl .nil⟩
    · walk_at "go"
      refine mSS ms (by decide +kernel) ?_
      walk_at "go"
      exact ⟨G0, p, d, kvs, hs, x, false, rfl, e, ms, hD, hz, hsz, hx, fun _ G1 H1 s1 => hE (saidE_NoCell T) s1 k1, fun z => nomatch z⟩
    · walk_at "go"
      refine mSS ms (by decide +kernel) ?_
      walk_at "go"
      exact ⟨G0, p, d, kvs, hs, x, false, rfl, e, ms, hD, hx, fun _ G1 H1 s1 => hE (saidE_NoValue T) s1 k1, fun _ _ z => nomatch z⟩
    · walk_at "go"
      refine mSS ms (by decide +kernel) ?_
      walk_at "go"
      exact ⟨G0, p, x, t, rfl, e, ot, kt, fun G1 H1 s1 => hE (saidE_NoChange T) s1 k1⟩
    · walk_at "go"
      refine mSS ms (by decide +kernel) ?_
      walk_at "go"
      refine ⟨G0, p, d, kvs, hs, x, y, .int 0, rfl, e, ms, hD, hk, ky, Knd.int, ?_⟩
      rcases h with ⟨hx, k1⟩ | ⟨hx, hi, k1⟩ | ⟨q, dq, kvq, hq, ri, rfl, rfl, mq, hDq, ok, k1⟩
      · exact .inl ⟨hx, hE (saidE_NoSheet T) (Stm.refl e) k1⟩
      · exact .inr (.inl ⟨hx, by rw [hi]; rfl, hE (saidE_NoNumber T) (Stm.refl e) k1⟩)
      · refine .inr (.inr ⟨q, dq, kvq, hq, ri, 0, rfl, rfl, rfl, mq, hDq, ok, fun G1 H1 d' kvs' s1 ms1 hD1 => ?_⟩)
        walk_at "go"
        refine lstI s1.i (by show 1 ≤ 1000; decide) fun p1 G2 H2 s2 g2 => ?_
        exact k1 G2 H2 d' kvs' _ (s1.trans (St.up s2)) (ms1.st s2) (hD1.mono s2.g) ⟨p1, _, rfl, g2, .cons rfl .nil⟩
    · walk_at "go"
      refine mSN ms (by decide +kernel) ?_
      walk_at "go"
      refine ⟨rfl, rfl, G0, p, d, kvs, hs, x, .int 0, y, rfl, e, ms, hD, hk, Knd.int, ky, .inr (.inl ⟨hx, by rw [hi]; rfl, hE (saidE_NoNumber T) (Stm.refl e) k1⟩)⟩
    · have hp := shT_sheet T ms
      rcases hn with rfl | rfl | rfl | rfl
      · walk_at "go"
        exact ⟨.ref p, x, true, false, rfl, shT_sheet T (ms.st (Stm.refl e)), hx, rfl, hE (saidE_NoSheet T) (Stm.refl e) k1⟩
      · walk_at "go"
        exact ⟨x, .ref p, false, true, rfl, hx, hp, rfl, hE (saidE_NoSheet T) (Stm.refl e) k1⟩
      · walk_at "go"
        refine lstI e (by show 2 ≤ 1000; decide) fun p1 G1 H1 s1 g1 => ?_
        walk_at "go"
        refine x_I (by decide) ?_
        refine ixW (s1.i _ _ g1) (i := 0) rfl ?_
        walk_at "go"
        refine lstI s1.i (by show 2 ≤ 1000; decide) fun p2 G2 H2 s2 g2 => ?_
        walk_at "go"
        refine x_I (by decide) ?_
        refine ixW (s2.i _ _ g2) (i := 0) rfl ?_
        walk_at "go"
        exact ⟨.ref p, x, true, false, rfl, shT_sheet T (ms.st (s1.trans s2)), hx2 _ _ (s1.trans s2), rfl, hE (saidE_NoSheet T) (s1.trans s2) k1⟩
      · walk_at "go"
        refine lstI e (by show 2 ≤ 1000; decide) fun p1 G1 H1 s1 g1 => ?_
        walk_at "go"
        refine x_I (by decide) ?_
        refine ixW (s1.i _ _ g1) (i := 1) rfl ?_
        walk_at "go"
        refine lstI s1.i (by show 2 ≤ 1000; decide) fun p2 G2 H2 s2 g2 => ?_
        walk_at "go"
        refine x_I (by decide) ?_
        refine ixW (s2.i _ _ g2) (i := 1) rfl ?_
        walk_at "go"
        exact ⟨x, .ref p, false, true, rfl, hx2 _ _ (s1.trans s2), shT_sheet T (ms.st (s1.trans s2)), rfl, hE (saidE_NoSheet T) (s1.trans s2) k1⟩
end
end GT

/-! ## K62Y -/
set_option Elab.async false
set_option linter.all false
set_option maxRecDepth 100000
set_option maxHeartbeats 400000
namespace GT
open PySem PySem.Spec PyProof.Rows L2 G
local macro_rules | `(tactic| walk_at "ex") => `(tactic| first | exact Ex.refl _ | assumption | exact Stm.g (by assumption) | (refine Ex.trans ?_ (Stm.g (by assumption)); walk_at "ex"))
local macro_rules | `(tactic| walk_at "st") => `(tactic| first | exact Stm.refl (by assumption) | assumption | (refine Stm.trans ?_ (by assumption); walk_at "st"))
local macro_rules | `(tactic| walk_at "i") => `(tactic| first | assumption | exact Stm.i (by assumption))
local macro_rules | `(tactic| walk_at "fact") => `(tactic| first | rfl | exact (rfl : V.non = optV none) | exact (rfl : V.int _ = optV (some _)) | assumption)
local macro_rules | `(tactic| walk_at "g") => `(tactic| first
  | with_reducible refine x_seq ?_
  | with_reducible refine x_next ?_
  | with_reducible refine x_asg ?_
  | with_reducible refine x_ret ?_
  | with_reducible refine x_retN ?_
  | with_reducible refine x_drop ?_
  | with_reducible refine x_ifs ?_
  | ((with_reducible refine' x_var ?hv ?_); (case hv => exact rfl))
  | with_reducible refine x_c ?_
  | with_reducible refine x_op ?_
  | with_reducible refine x_un ?_
  | with_reducible refine x_test ?_
  | with_reducible refine x_B ?_
  | with_reducible refine x_bl ?_
  | with_reducible refine x_and ?_
  | with_reducible refine x_or ?_
  | with_reducible refine x_not ?_
  | with_reducible refine x_andV ?_
  | with_reducible refine x_orV ?_
  | with_reducible refine x_notV ?_
  | with_reducible refine x_ife ?_
  | with_reducible refine x_isN ?_
  | with_reducible refine x_notN ?_
  | with_reducible refine x_nil ?_
  | with_reducible refine x_cons ?_
  | with_reducible refine x_cb ?_
  | with_reducible refine x_call ?_
  | ((with_reducible refine' x_callL ?hv ?_); (case hv => exact rfl))
  | with_reducible refine x_gname ?_
  | with_reducible refine x_I0 ?_
  | ((with_reducible refine' x_eq ?hv ?_); (case hv => exact rfl))
  | ((with_reducible refine' x_ne ?hv ?_); (case hv => exact rfl))
  | with_reducible refine x_tupG ?_
  | with_reducible refine x_lstG ?_
  | with_reducible refine x_lc ?_
  | (with_reducible refine x_U ?_)
  | ((with_reducible refine' ite_T ?hv ?_); (case hv => exact rfl))
  | ((with_reducible refine' ite_F ?hv ?_); (case hv => exact rfl))
  | with_reducible refine x_for ?_
  | with_reducible refine x_iEnum ?_
  | with_reducible refine x_iList ?_
  | with_reducible refine x_iTup ?_
  | with_reducible refine x_gcons ?_
  | with_reducible refine x_gnil ?_
  | with_reducible refine x_bm ?_
  | with_reducible refine x_fldG ?_
  | with_reducible refine x_meth ?_
  | with_reducible refine x_sl ?_
  | with_reducible refine x_nopart ?_
  | with_reducible refine x_part ?_
  | with_reducible refine x_int ?_
  | with_reducible refine x_yes ?_
  | with_reducible refine x_isNG ?_
  | with_reducible refine x_notNG ?_
  | fail "no step")
local macro_rules | `(tactic| walk_at "g2") => `(tactic| first
  | with_reducible refine x_sfld ?_
  | with_reducible refine x_make ?_
  | with_reducible refine x_dnew ?_
  | with_reducible refine x_lcT ?_
  | with_reducible refine x_lcS ?_
  | with_reducible refine x_disp ?_
  | with_reducible refine x_pcons ?_
  | with_reducible refine x_pnil ?_
  | with_reducible refine x_dnewK ?_
  | with_reducible refine x_dput ?_
  | with_reducible refine x_gsub ?_
  | with_reducible refine x_dget2 ?_
  | with_reducible refine x_litems ?_
  | with_reducible refine x_bmX ?_
  | with_reducible refine x_ckw ?_
  | with_reducible refine L2Z.x_methS ?_
  | with_reducible refine L2Z.x_methN ?_
  | with_reducible refine x_callSD ?_
  | with_reducible refine x_lcZ ?_
  | walk_at "g")
local macro_rules | `(tactic| walk_at "go") => `(tactic| repeat' walk_at "g2")

section
variable {P : Program} {w : World} {K : PySem.W.Frag} {mg : Str → Option Value} {base : Heap}
/-- a text with a sign that no value has -/
def badS (z : Str) : Bool := z.cps.toList.any fun c => !decide (c ∈ signs)
theorem badS_okV {z : Str} (h : badS z = true) : okV z = false := by
  unfold badS at h
  unfold okV
  obtain ⟨c, hc, hn⟩ := List.any_eq_true.mp h
  have : (z.cps.toList.all fun c => decide (c ∈ signs)) = false := by
    rw [List.all_eq_false]
    refine ⟨c, hc, ?_⟩
    cases q : decide (c ∈ signs) with
    | false => exact Bool.false_ne_true
    | true => rw [q] at hn; cases hn
  rw [this, Bool.and_false]
theorem cps_add (a b : Str) : (a ++ b).cps.toList = a.cps.toList ++ b.cps.toList := by
  show (a.cps ++ b.cps).toList = _
  rw [Array.toList_append]
theorem badS_mid {a b c : Str} (h : badS b = true) : badS (a ++ b ++ c) = true := by
  unfold badS at h ⊢
  rw [cps_add, cps_add, List.any_append, List.any_append, h, Bool.or_true, Bool.true_or]
theorem size_add (a b : Str) : (a ++ b).cps.size = a.cps.size + b.cps.size := by
  show (a.cps ++ b.cps).size = _
  rw [Array.size_append]
def OddT (K : PySem.W.Frag) (G : Hp) (v : V) : Prop := ValT K G v false
theorem ValT.mono {G G' : Hp} {v : V} {b : Bool} (h : ValT K G v b) (e : Ex G G') : ValT K G' v b := by
  rcases h with ⟨h1, t, h2, h3⟩ | h
  · exact .inl ⟨h1, t, h2.mono e, h3⟩
  · exact .inr h
theorem odNon {G : Hp} : Od K G .non (.type "NoneType") := fun _ _ => .base .non
theorem odInt {G : Hp} {i : Int} : Od K G (.int i) (.type "int") := fun _ _ => .base (.int i)
theorem odBl {G : Hp} {i : Bool} : Od K G (.bl i) (.type "bool") := fun _ _ => .base (.bl i)
theorem odStr {G : Hp} {i : Str} : Od K G (.str i) (.type "str") := fun _ _ => .base (.str i)
theorem odLst {G : Hp} {a : Addr} {xs : List V} (h : G a = some (.lst xs)) : Od K G (.ref a) (.type "list") := fun _ e => .base (.lst (e _ _ h))
theorem odTup {G : Hp} {a : Addr} {xs : List V} (h : G a = some (.tup xs)) : Od K G (.ref a) (.type "tuple") := fun _ e => .base (.tup (e _ _ h))
theorem odDk {G : Hp} {a : Addr} {xs : List (Key × V)} (h : G a = some (.dK xs)) : Od K G (.ref a) (.type "dict") := fun _ e => .base (.dK (e _ _ h))
theorem drawG {K' : PySem.W.Frag} {G H : Hp} {p : Addr} {c n : Int} {Q : VK} {E : XK} (e : Ex G H) (m : MuW G H p c) (c0 : 0 ≤ c) (c1 : c < 1000000) (n0 : 0 < n) (n1 : n < 1073741824)
    (k : ∀ H1 i c', 0 ≤ i → i < n → c ≤ c' → c' ≤ c + 1 → Stm [p] G H G H1 → MuW G H1 p c' → Q (.int i) H1) : sp_law_draw K' [.ref p, .int n] H Q E := ⟨G, p, c, n, rfl, e, m, c0, c1, n0, n1, k⟩
theorem St.toW {G H G1 H1 : Hp} (p : Addr) (s : St G H G1 H1) : Stm [p] G H G1 H1 := St.up s
def sp_law_no_value (K : PySem.W.Frag) : Sp := fun vs H Q _ => ∃ G p c, vs = [.ref p] ∧ Ex G H ∧ MuW G H p c ∧ 0 ≤ c ∧ c < 900000 ∧
  ∀ G1 H1 c' v, c ≤ c' → c' ≤ c + 5 → Stm [p] G H G1 H1 → MuW G1 H1 p c' → ValT K G1 v false → Q v H1
theorem sc__law_no_value : FnScope ["_law_well_here", "_law_sign", "_law_word", "_law_at", "_law_odd"] ["_law_well_here"] (defScope s__law_no_value) := ⟨rfl, rfl, rfl, by decide +kernel, rfl, by decide +kernel, by decide +kernel⟩
theorem ok__law_no_value (T : TX K mg) : FnOk P w K mg base CX0 2 (f__law_no_value K) (fdO K (f__law_no_value K)) ["_law_well_here"] (sp_law_no_value K) := by
  refine (F__law_no_value T).ok sc__law_no_value (fun vs H Q E h => ?_) (fun cdv A outer s H vs Q E hr h => ?_)
  · obtain ⟨_, _, _, rfl, _⟩ := h; rfl
  · obtain ⟨G0, p, c, rfl, e, mw, c0, c9, k⟩ := h
    refine ⟨_, PSs.nox (pss_cons (ps_set (i := 1) sc__law_no_value.nd rfl (by first | exact Or.inl rfl | exact Or.inr rfl) (pe_ix (ixLK (K := K) (by rfl)) (pe_lst (pa_cons pe_str (pa_cons pe_str (pa_cons pe_str (pa_cons pe_str (pa_cons pe_str (pa_cons pe_str (pa_cons pe_str pa_nil)))))))) (pe_call (ok__law_draw T) (hr.mono (by decide)) (by rfl) (g__law_draw T) (F__law_draw T).kp (b__law_draw T) .nil pass0 (pa_cons (pv 0) (pa_cons pe_int pa_nil))) (fun _ _ => rfl)))
      (pss_cons (ps_set (i := 2) sc__law_no_value.nd rfl (by first | exact Or.inl rfl | exact Or.inr rfl) (pe_ix (ixLK (K := K) (by rfl)) (pe_lst (pa_cons pe_str (pa_cons pe_str (pa_cons pe_str (pa_cons (pe_op op_mulS pe_str pe_int) pa_nil))))) (pe_call (ok__law_draw T) (hr.mono (by decide)) (by rfl) (g__law_draw T) (F__law_draw T).kp (b__law_draw T) .nil pass0 (pa_cons (pv 0) (pa_cons pe_int pa_nil))) (fun _ _ => rfl)))
      (pss_cons (ps_set (i := 3) sc__law_no_value.nd rfl (by first | exact Or.inl rfl | exact Or.inr rfl) (pe_call (ok__law_draw T) (hr.mono (by decide)) (by rfl) (g__law_draw T) (F__law_draw T).kp (b__law_draw T) .nil pass0 (pa_cons (pv 0) (pa_cons (pe_op op_add (pe_callB lenS (by rfl) (z_len T) PySem.boot_len (pa_cons (pv 2) pa_nil)) pe_int) pa_nil))))
      (pss_cons (ps_set (i := 4) sc__law_no_value.nd rfl (by first | exact Or.inl rfl | exact Or.inr rfl) (pe_ix (ixLK (K := K) (by rfl)) (pe_lst (pa_cons pe_non (pa_cons pe_int (pa_cons (pe_lst (pa_cons pe_str pa_nil)) (pa_cons pe_bl (pa_cons (pe_op op_mulS pe_str pe_int) (pa_cons (pe_op op_mulS pe_str pe_int) (pa_cons (pe_tup (pa_cons pe_str pa_nil)) (pa_cons pe_dnewK pa_nil))))))))) (pe_call (ok__law_draw T) (hr.mono (by decide)) (by rfl) (g__law_draw T) (F__law_draw T).kp (b__law_draw T) .nil pass0 (pa_cons (pv 0) (pa_cons pe_int pa_nil))) (fun _ _ => rfl)))
      (pss_one (ps_ret (pe_ix (ixLK (K := K) (by rfl)) (pe_lst (pa_cons (pe_op op_add_str (pe_op op_add_str (pe_slice sl_str (pv 2) po_none (po_some (pv 3))) (pv 1)) (pe_slice sl_str (pv 2) (po_some (pv 3)) po_none)) (pa_cons (pv 4) pa_nil))) (pe_call (ok__law_draw T) (hr.mono (by decide)) (by rfl) (g__law_draw T) (F__law_draw T).kp (b__law_draw T) .nil pass0 (pa_cons (pv 0) (pa_cons pe_int pa_nil))) (fun _ _ => rfl)))))))), ?_⟩
    walk_at "go"
    refine lstI e (by show 7 ≤ 1000; decide) fun l1 G1 H1 s1 g1 => ?_
    walk_at "go"
    refine drawG s1.i (MuW.st mw s1) c0 (by omega) (by decide) (by decide) fun H2 i1 c2 i10 i11 c20 c21 s2 m2 => ?_
    refine pick (s2.i _ _ g1) i10 i11 (P := fun v => ∃ z : Str, v = .str z ∧ z.cps.size ≤ 1 ∧ badS z = true) (by
      intro v hv
      simp only [List.mem_cons, List.not_mem_nil, or_false] at hv
      rcases hv with rfl | rfl | rfl | rfl | rfl | rfl | rfl <;> exact ⟨_, rfl, by decide +kernel, by decide +kernel⟩) ?_
    rintro _ ⟨zs, rfl, zs1, zsb⟩
    have t2 : Stm [p] G0 H G1 H2 := (St.toW p s1).trans s2
    walk_at "go"
    refine mulS (n := 39) rfl (by decide) (by decide) (by decide +kernel) (by decide +kernel) ?_
    walk_at "go"
    refine lstI s2.i (by show 4 ≤ 1000; decide) fun l2 G3 H3 s3 g3 => ?_
    walk_at "go"
    refine drawG s3.i (MuW.st m2 s3) (by omega) (by omega) (by decide) (by decide) fun H4 i2 c4 i20 i21 c40 c41 s4 m4 => ?_
    refine pick (s4.i _ _ g3) i20 i21 (P := fun v => ∃ z : Str, v = .str z ∧ z.cps.size ≤ 39) (by
      intro v hv
      simp only [List.mem_cons, List.not_mem_nil, or_false] at hv
      rcases hv with rfl | rfl | rfl | rfl <;> exact ⟨_, rfl, by decide +kernel⟩) ?_
    rintro _ ⟨zw, rfl, zw1⟩
    have t4 : Stm [p] G0 H G3 H4 := (t2.trans (St.toW p s3)).trans s4
    walk_at "go"
    have hzl : zw.length = zw.cps.size := rfl
    have sz : (1000 : Nat) ≤ sizeLine := by decide
    refine ⟨zw, rfl, by omega, ?_⟩
    walk_at "go"
    refine drawG s4.i m4 (by omega) (by omega) (by omega) (by omega) fun H5 i3 c5 i30 i31 c50 c51 s5 m5 => ?_
    have t5 := t4.trans s5
    walk_at "go"
    refine lstI s5.i (by show 1 ≤ 1000; decide) fun l3 G6 H6 s6 g6 => ?_
    walk_at "go"
    refine mulS (n := 41) rfl (by decide) (by decide) (by decide +kernel) (by decide +kernel) ?_
    walk_at "go"
    refine mulS (n := 41) rfl (by decide) (by decide) (by decide +kernel) (by decide +kernel) ?_
    walk_at "go"
    refine tupI s6.i (by show 1 ≤ 1000; decide) fun l4 G7 H7 s7 g7 => ?_
    walk_at "go"
    refine dnewK s7.i fun l5 H8 hl5 s8 m8 => ?_
    obtain ⟨s9, g9⟩ := freeze m8 s8.i
    have s89 : St G7 H7 (upd G7 l5 (.dK [])) H8 := Stm.fresh s8 s9 fun a ha => by rw [List.mem_singleton.mp ha]; exact hl5
    generalize upd G7 l5 (.dK []) = G8 at s9 g9 s89
    walk_at "go"
    refine lstI s89.i (by show 8 ≤ 1000; decide) fun l6 G10 H10 s10 g10 => ?_
    walk_at "go"
    have m10 : MuW G10 H10 p c5 := MuW.st (MuW.st (MuW.st (MuW.st m5 s6) s7) s89) s10
    have t10 : Stm [p] G0 H G10 H10 := t5.trans (St.toW p (((s6.trans s7).trans s89).trans s10))
    refine drawG s10.i m10 (by omega) (by omega) (by decide) (by decide) fun H11 i4 c11 i40 i41 c110 c111 s11 m11 => ?_
    have t11 := t10.trans s11
    refine pick (s11.i _ _ g10) i40 i41 (P := fun v => ValT K G10 v false) (by
      intro v hv
      simp only [List.mem_cons, List.not_mem_nil, or_false] at hv
      rcases hv with rfl | rfl | rfl | rfl | rfl | rfl | rfl | rfl
      · exact .inl ⟨rfl, _, odNon, kit_ty (by decide +kernel)⟩
      · exact .inl ⟨rfl, _, odInt, kit_ty (by decide +kernel)⟩
      · exact .inl ⟨rfl, _, odLst (s10.g _ _ (s89.g _ _ (s7.g _ _ g6))), kit_ty (by decide +kernel)⟩
      · exact .inl ⟨rfl, _, odBl, kit_ty (by decide +kernel)⟩
      · exact .inr ⟨_, rfl, by decide +kernel, by decide +kernel⟩
      · exact .inr ⟨_, rfl, by decide +kernel, by decide +kernel⟩
      · exact .inl ⟨rfl, _, odTup (s10.g _ _ (s89.g _ _ g7)), kit_ty (by decide +kernel)⟩
      · exact .inl ⟨rfl, _, odDk (s10.g _ _ g9), kit_ty (by decide +kernel)⟩) ?_
    intro vo ho
    walk_at "go"
    refine ⟨zw, rfl, by omega, ?_⟩
    walk_at "go"
    have q1 := cutS_length zw none (some i3)
    have q2 := cutS_length zw (some i3) none
    have q3 : (cutS zw none (some i3) ++ zs).length = (cutS zw none (some i3)).cps.size + zs.cps.size := size_add _ _
    have q4 : (cutS zw none (some i3) ++ zs ++ cutS zw (some i3) none).length = (cutS zw none (some i3) ++ zs).cps.size + (cutS zw (some i3) none).cps.size := size_add _ _
    have q5 : zs.length = zs.cps.size := rfl
    have q6 : (cutS zw none (some i3)).length = (cutS zw none (some i3)).cps.size := rfl
    have q7 : (cutS zw (some i3) none).length = (cutS zw (some i3) none).cps.size := rfl
    have q8 : (cutS zw none (some i3) ++ zs).length = (cutS zw none (some i3) ++ zs).cps.size := rfl
    have q9 : (cutS zw none (some i3) ++ zs ++ cutS zw (some i3) none).length = (cutS zw none (some i3) ++ zs ++ cutS zw (some i3) none).cps.size := rfl
    refine ⟨_, _, rfl, rfl, by omega, ?_⟩
    walk_at "go"
    refine ⟨zw, rfl, by omega, ?_⟩
    walk_at "go"
    refine ⟨_, _, rfl, rfl, by omega, ?_⟩
    walk_at "go"
    refine lstI s11.i (by show 2 ≤ 1000; decide) fun l7 G12 H12 s12 g12 => ?_
    walk_at "go"
    refine drawG s12.i (MuW.st m11 s12) (by omega) (by omega) (by decide) (by decide) fun H13 i5 c13 i50 i51 c130 c131 s13 m13 => ?_
    refine pick (s13.i _ _ g12) i50 i51 (P := fun v => ValT K G12 v false) (by
      intro v hv
      simp only [List.mem_cons, List.not_mem_nil, or_false] at hv
      rcases hv with rfl | rfl
      · exact .inr ⟨_, rfl, by omega, (badS_okV (badS_mid zsb)).symm⟩
      · exact ValT.mono ho s12.g) ?_
    intro vr hvr
    exact k G12 H13 c13 vr (by omega) (by omega) ((t11.trans (St.toW p s12)).trans s13) m13 hvr
end
end GT

/-! ## K62M0 -/
set_option Elab.async false
set_option linter.all false
set_option maxRecDepth 100000
set_option maxHeartbeats 400000
namespace GT
open PySem PySem.Spec PyProof.Rows L2 G
/-! ### the sheets of the law -/
def lblk (k : Nat) (t : Int) : Blk := ⟨t, 1 + (k : Nat), some (t + 2), none⟩
def lval (k : Nat) : Str := match k with | 0 => "a" | 1 => "b" | _ => " "
def llong : Str := "abcdefghijklmnopqrstuvwxyz0123456789    "
def keysP (hs : Hs) : List (Int × Int) := (rawP hs).map pkey
def last0 : Hs := [(llong, all1)]
def finOk (hs : Hs) : Bool := okFill hs all1 llong && (decide (fillH hs all1 llong = last0) && (decide (hs.length ≤ 100) && (szH hs && (hs.all nonE && decide (keysP hs).Nodup))))
def stepsOk : Nat → Nat → Hs → Bool
  | 0, _, hs => finOk hs
  | n + 1, k, hs => finOk hs && ([1, 2, 3, 4, 5] : List Int).all fun t => okB (lblk k t) && (okN [lblk k t] && (okFill hs (norm [lblk k t]) (lval k) && stepsOk n (k + 1) (fillH hs (norm [lblk k t]) (lval k))))
theorem steps0 : stepsOk 3 0 [("", all1)] = true := by decide +kernel
theorem laid_last : okLaid last0 last0 0 0 = true := by decide +kernel
theorem value_last : (valH (laidH last0 (partsL last0 0 0)) 999999999999 999999999999).head? = some llong := by decide +kernel
theorem sizes_last : (laidH last0 (partsL last0 0 0)).length ≤ 100 ∧ szH (laidH last0 (partsL last0 0 0)) = true := by decide +kernel
theorem stepsOk.fin : ∀ {n k : Nat} {hs : Hs}, stepsOk n k hs = true → finOk hs = true
  | 0, _, _, h => h
  | n + 1, _, _, h => by
    unfold stepsOk at h
    rw [Bool.and_eq_true] at h
    exact h.1
theorem stepsOk.next {n k : Nat} {hs : Hs} (h : stepsOk (n + 1) k hs = true) {t : Int} (t1 : 1 ≤ t) (t5 : t ≤ 5) : okB (lblk k t) = true ∧ okN [lblk k t] = true ∧ okFill hs (norm [lblk k t]) (lval k) = true ∧ stepsOk n (k + 1) (fillH hs (norm [lblk k t]) (lval k)) = true := by
  unfold stepsOk at h
  rw [Bool.and_eq_true] at h
  have ht : t ∈ ([1, 2, 3, 4, 5] : List Int) := by
    have : t = 1 ∨ t = 2 ∨ t = 3 ∨ t = 4 ∨ t = 5 := by omega
    rcases this with rfl | rfl | rfl | rfl | rfl <;> decide
  have := List.all_eq_true.mp h.2 t ht
  rw [Bool.and_eq_true, Bool.and_eq_true, Bool.and_eq_true] at this
  exact ⟨this.1, this.2.1, this.2.2.1, this.2.2.2⟩
end GT

/-! ## K62Z -/
set_option Elab.async false
set_option linter.all false
set_option maxRecDepth 100000
set_option maxHeartbeats 4000000
namespace GT
open PySem PySem.Spec PyProof.Rows L2 G
local macro_rules | `(tactic| walk_at "ex") => `(tactic| first | exact Ex.refl _ | assumption | exact Stm.g (by assumption) | (refine Ex.trans ?_ (Stm.g (by assumption)); walk_at "ex"))
local macro_rules | `(tactic| walk_at "st") => `(tactic| first | exact Stm.refl (by assumption) | assumption | (refine Stm.trans ?_ (by assumption); walk_at "st"))
local macro_rules | `(tactic| walk_at "i") => `(tactic| first | assumption | exact Stm.i (by assumption))
local macro_rules | `(tactic| walk_at "fact") => `(tactic| first | rfl | exact (rfl : V.non = optV none) | exact (rfl : V.int _ = optV (some _)) | assumption)
local macro_rules | `(tactic| walk_at "g") => `(tactic| first
  | with_reducible refine x_seq ?_
  | with_reducible refine x_next ?_
  | with_reducible refine x_asg ?_
  | with_reducible refine x_ret ?_
  | with_reducible refine x_retN ?_
  | with_reducible refine x_drop ?_
  | with_reducible refine x_ifs ?_
  | ((with_reducible refine' x_var ?hv ?_); (case hv => exact rfl))
  | with_reducible refine x_c ?_
  | with_reducible refine x_op ?_
  | with_reducible refine x_un ?_
  | with_reducible refine x_test ?_
  | with_reducible refine x_B ?_
  | with_reducible refine x_bl ?_
  | with_reducible refine x_and ?_
  | with_reducible refine x_or ?_
  | with_reducible refine x_not ?_
  | with_reducible refine x_andV ?_
  | with_reducible refine x_orV ?_
  | with_reducible refine x_notV ?_
  | with_reducible refine x_ife ?_
  | with_reducible refine x_isN ?_
  | with_reducible refine x_notN ?_
  | with_reducible refine x_nil ?_
  | with_reducible refine x_cons ?_
  | with_reducible refine x_cb ?_
  | with_reducible refine x_call ?_
  | ((with_reducible refine' x_callL ?hv ?_); (case hv => exact rfl))
  | ((with_reducible refine' x_gnameN ?hv ?_); (case hv => (simp only [L2.start, List.map_cons, List.map_nil, List.length_cons, List.length_nil, List.replicate_succ, List.replicate_zero, List.cons_append, List.nil_append, List.set_cons_zero, List.set_cons_succ, Nat.reduceAdd, Nat.reduceSub, Nat.add_one_sub_one]; exact rfl)))
  | with_reducible refine x_gname ?_
  | with_reducible refine x_I0 ?_
  | ((with_reducible refine' x_eq ?hv ?_); (case hv => exact rfl))
  | ((with_reducible refine' x_ne ?hv ?_); (case hv => exact rfl))
  | with_reducible refine x_tupG ?_
  | with_reducible refine x_lstG ?_
  | with_reducible refine x_lc ?_
  | (with_reducible refine x_U ?_)
  | ((with_reducible refine' ite_T ?hv ?_); (case hv => exact rfl))
  | ((with_reducible refine' ite_F ?hv ?_); (case hv => exact rfl))
  | with_reducible refine x_for ?_
  | with_reducible refine x_iEnum ?_
  | with_reducible refine x_iRng1 ?_
  | with_reducible refine x_iList ?_
  | with_reducible refine x_iTup ?_
  | with_reducible refine x_gcons ?_
  | with_reducible refine x_gnil ?_
  | with_reducible refine x_bm ?_
  | with_reducible refine x_fldG ?_
  | with_reducible refine x_meth ?_
  | with_reducible refine x_sl ?_
  | with_reducible refine x_nopart ?_
  | with_reducible refine x_part ?_
  | with_reducible refine x_int ?_
  | with_reducible refine x_yes ?_
  | with_reducible refine x_isNG ?_
  | with_reducible refine x_notNG ?_
  | fail "no step")
local macro_rules | `(tactic| walk_at "g2") => `(tactic| first
  | with_reducible refine x_sfld ?_
  | with_reducible refine x_make ?_
  | with_reducible refine x_dnew ?_
  | with_reducible refine x_lcT ?_
  | with_reducible refine x_lcS ?_
  | with_reducible refine x_disp ?_
  | with_reducible refine x_pcons ?_
  | with_reducible refine x_pnil ?_
  | with_reducible refine x_dnewK ?_
  | with_reducible refine x_dput ?_
  | with_reducible refine x_gsub ?_
  | with_reducible refine x_dget2 ?_
  | with_reducible refine x_litems ?_
  | with_reducible refine x_bmX ?_
  | with_reducible refine x_ckw ?_
  | with_reducible refine L2Z.x_methS ?_
  | with_reducible refine L2Z.x_methN ?_
  | with_reducible refine x_callSD ?_
  | with_reducible refine x_lcZ ?_
  | walk_at "g")
local macro_rules | `(tactic| walk_at "go") => `(tactic| repeat' walk_at "g2")

section
variable {P : Program} {w : World} {K : PySem.W.Frag} {mg : Str → Option Value} {base : Heap}
/-- what isinstance(x, Sheet) tells, as long as the facts stand -/
def ShD (K : PySem.W.Frag) (G : Hp) (x : V) (b : Bool) : Prop := ∃ t, Od K G x t ∧ PySem.W.kitOne K t (.ref (He.ga K "Sheet")) = some b
theorem ShD.mono {G G' : Hp} {x : V} {b : Bool} (h : ShD K G x b) (e : Ex G G') : ShD K G' x b := let ⟨t, h1, h2⟩ := h; ⟨t, h1.mono e, h2⟩
theorem ShD.at {G H : Hp} {x : V} {b : Bool} (h : ShD K G x b) (e : Ex G H) : ShT K H x b := let ⟨t, h1, h2⟩ := h; ⟨t, h1 H e, h2⟩
theorem AreaT.mono {G G' : Hp} {x : V} {o : Option (List Blk)} (h : AreaT K G x o) (e : Ex G G') : AreaT K G' x o := by
  rcases h with ⟨h1, t, h2, h3⟩ | ⟨a, h1, h2⟩
  · exact .inl ⟨h1, t, h2.mono e, h3⟩
  · exact .inr ⟨a, h1, IsAr.mono _ _ _ _ e h2⟩
theorem CellT.mono {G G' : Hp} {x : V} {b : Bool} (h : CellT K G x b) (e : Ex G G') : CellT K G' x b := by
  rcases h with ⟨h1, t, h2, h3⟩ | ⟨p, xs, h1, h2, h3, h4, h5⟩
  · exact .inl ⟨h1, t, h2.mono e, h3⟩
  · exact .inr ⟨p, xs, h1, e _ _ h2, fun y hy => (h3 y hy).mono e, h4, h5⟩
/-- an asking that is refused, and the word of its class -/
inductive AskOk (K : PySem.W.Frag) (G : Hp) : Int → V → V → Str → Prop
  | area1 {x y : V} {b : Bool} (hx : AreaT K G x none) (hy : ValT K G y b) : AskOk K G 0 x y "area"
  | area2 {x y : V} {a : List Blk} (hx : AreaT K G x (some a)) (hy : ValT K G y false) : AskOk K G 0 x y "value"
  | cell {x y : V} (hx : CellT K G x false) : AskOk K G 1 x y "cell"
  | value {x y : V} (hx : ValT K G x false) : AskOk K G 2 x y "value"
  | change {x y : V} {t : Value} (hx : Od K G x t) (kt : PySem.W.kitOne K t (.ref (He.ga K "Change")) = some false) : AskOk K G 3 x y "change"
  | sheet {x y : V} (hx : ShD K G x false) (hy : Kd K G y) : AskOk K G 4 x y "sheet"
  | num {x y : V} (hx : ShD K G x true) (hy : Kd K G y) (hi : isIntV y = false) : AskOk K G 4 x y "number"
  | numc {x y : V} (hx : ShD K G x true) (hy : Kd K G y) (hi : isIntV y = false) : AskOk K G 5 x y "number"
  | un {n : Int} {x y : V} (hn : n = 6 ∨ n = 7 ∨ n = 8 ∨ n = 9) (hx : ShD K G x false) : AskOk K G n x y "sheet"
theorem AskOk.mono {G G' : Hp} {n : Int} {x y : V} {z : Str} (h : AskOk K G n x y z) (e : Ex G G') : AskOk K G' n x y z := by
  cases h with
  | area1 hx hy => exact .area1 (hx.mono e) (hy.mono e)
  | area2 hx hy => exact .area2 (hx.mono e) (hy.mono e)
  | cell hx => exact .cell (hx.mono e)
  | value hx => exact .value (hx.mono e)
  | change hx kt => exact .change (hx.mono e) kt
  | sheet hx hy => exact .sheet (hx.mono e) (hy.mono e)
  | num hx hy hi => exact .num (hx.mono e) (hy.mono e) hi
  | numc hx hy hi => exact .numc (hx.mono e) (hy.mono e) hi
  | un hn hx => exact .un hn (hx.mono e)
theorem AskOk.said {G H : Hp} {n : Int} {p d : Addr} {kvs : List (Key × V)} {hs : Hs} {x y : V} {z : Str} {Q : VK} {E : XK} (h : AskOk K G n x y z) (e : Ex G H) (ms : MuS K G H p d kvs) (hD : HD K G kvs hs) (hk : kn hs) (hz : hs.length ≤ 100) (hsz : szH hs = true)
    (k : ∀ G1 H1 r, St G H G1 H1 → IsL IsS G1 r [z] → Q r H1) : sp_law_said K [.int n, .ref p, x, y] H Q E := by
  refine ⟨G, n, p, d, kvs, hs, x, y, rfl, e, ms, hD, hk, ?_⟩
  cases h with
  | @area1 _ _ b hx hy => exact .inl ⟨rfl, none, b, hx, hy, fun _ => k, (fun _ z => nomatch z), fun _ _ z => nomatch z⟩
  | @area2 _ _ a hx hy => exact .inl ⟨rfl, some a, false, hx, hy, (fun z => nomatch z), fun _ _ _ => k, fun _ _ _ _ z => nomatch z⟩
  | cell hx => exact .inr (.inl ⟨rfl, hx, hz, hsz, k⟩)
  | value hx => exact .inr (.inr (.inl ⟨rfl, hx, k⟩))
  | @change _ _ t hx kt => exact .inr (.inr (.inr (.inl ⟨rfl, ⟨t, hx, kt⟩, k⟩)))
  | sheet hx hy => exact .inr (.inr (.inr (.inr (.inl ⟨rfl, hy H e, .inl ⟨hx.at e, k⟩⟩))))
  | num hx hy hi => exact .inr (.inr (.inr (.inr (.inl ⟨rfl, hy H e, .inr (.inl ⟨hx.at e, hi, k⟩)⟩))))
  | numc hx hy hi => exact .inr (.inr (.inr (.inr (.inr (.inl ⟨rfl, hy H e, hx.at e, hi, k⟩)))))
  | un hn hx => exact .inr (.inr (.inr (.inr (.inr (.inr ⟨hn, hx.at e, fun G' H' s => (hx.mono s.g).at s.i, k⟩)))))
def Ask (K : PySem.W.Frag) : Rp (Int × V × V × Str) := fun G v z => ∃ t, v = .ref t ∧ G t = some (.tup [.int z.1, z.2.1, z.2.2.1, .str z.2.2.2]) ∧ AskOk K G z.1 z.2.1 z.2.2.1 z.2.2.2
theorem Ask.mono : Mono (Ask K) := fun _ _ _ _ e ⟨t, h1, h2, h3⟩ => ⟨t, h1, e _ _ h2, h3.mono e⟩
theorem mkSheetF {G H : Hp} {dvs vs : List V} {Q : VK} {E : XK} (T : TX K mg) (hv : vs ++ dvs = []) (e : Ex G H) (h : ∀ p G1 H1, St G H G1 H1 → Od K G1 (.ref p) (.ref (He.ga K "Sheet")) → Q (.ref p) H1) : MakeGo (He.ga K "Sheet") (sp_Sheet_init K) dvs vs H Q E := by
  refine makeG e fun x dx H1 hx hd hn s1 m1 => ⟨G, x, dx, by rw [hv], s1.i, m1, fun G2 H2 d1 kvs1 s2 ms2 hD2 hd1 => ⟨rfl, ?_⟩⟩
  obtain ⟨dx2, mo⟩ := ms2.o
  obtain ⟨s3, g3⟩ := freeze mo s2.i
  exact h x _ _ (Stm.fresh s1 (s2.trans s3) fun q hq => by rw [List.mem_singleton.mp hq]; exact hx) fun H' e' => t_Sheet T (e' _ _ g3)
theorem kdOd {G : Hp} {x : V} {t : Value} {b1 b2 : Bool} (h : Od K G x t) (h1 : PySem.W.kitOne K t (.type "int") = some b1) (h2 : PySem.W.kitOne K t (.type "bool") = some b2) (h3 : (b1 && !b2) = isIntV x) : Kd K G x := fun H e => ⟨t, b1, b2, h H e, h1, h2, h3⟩
theorem kdBl {G : Hp} {i : Bool} : Kd K G (.bl i) := kdOd odBl (b1 := true) (b2 := true) (kit_ty (by decide +kernel)) (kit_ty (by decide +kernel)) rfl
theorem kdStr {G : Hp} {i : Str} : Kd K G (.str i) := kdOd odStr (b1 := false) (b2 := false) (kit_ty (by decide +kernel)) (kit_ty (by decide +kernel)) rfl
theorem kdNon {G : Hp} : Kd K G .non := kdOd odNon (b1 := false) (b2 := false) (kit_ty (by decide +kernel)) (kit_ty (by decide +kernel)) rfl
theorem AskOk.word {G : Hp} {n : Int} {x y : V} {z : Str} (h : AskOk K G n x y z) : PyData.strOk z = true := by
  cases h <;> decide +kernel
theorem neWord {H : Hp} {r : V} {p : Addr} {z : Str} {G : Hp} {Q : VK} (hz : PyData.strOk z = true) (h : IsL IsS G r [z]) (e : Ex G H) (hp : H p = some (.lst [.str z])) (q : Q (.bl false) H) : rNeD K r (.ref p) H Q := by
  obtain ⟨a, vs, rfl, ha, hr⟩ := h
  cases hr with
  | cons h1 h2 =>
    cases h2
    cases h1
    refine ⟨.list [.str z], .list [.str z], .lst (sq (e _ _ ha)) (.cons (.str _) .nil), .lst (sq hp) (.cons (.str _) .nil), (by simp [SeqAt.shaped, PyData.canLay0, PyData.canLayAll0, PyData.depth, PyData.depthAll, hz]), (by simp [SeqAt.shaped, PyData.canLay0, PyData.canLayAll0, PyData.depth, PyData.depthAll, hz]), ?_⟩
    have : PyData.eqv (.list [.str z]) (.list [.str z]) = true := SeqAt.eqv_refl _ (by simp [PyData.canLay0, PyData.canLayAll0, hz])
    rw [this]
    exact q
def sp_refused_right (K : PySem.W.Frag) : Sp := fun vs H Q _ => ∃ G p c ps d kvs hs, vs = [.ref p, .ref ps] ∧ Ex G H ∧ MuW G H p c ∧ 0 ≤ c ∧ c < 800000 ∧ MuS K G H ps d kvs ∧ HD K G kvs hs ∧ kn hs ∧ hs.length ≤ 100 ∧ szH hs = true ∧
  ∀ G1 H1 c', c ≤ c' → c' ≤ c + 12 → Stm [p] G H G1 H1 → MuW G1 H1 p c' → Q (.bl true) H1
theorem sc__law_refused_right : FnScope ["_law_well_here", "_law_sheet", "_law_block", "_law_no_area", "_law_no_sheet", "_law_no_cell", "_law_no_change", "_law_no_number", "_law_no_value_here", "_law_area", "_law_asked", "_law_way", "_law_one", "_law_other", "_law_word"] ["_law_well_here", "_law_sheet"] (defScope s__law_refused_right) := ⟨rfl, rfl, rfl, by decide +kernel, rfl, by decide +kernel, by decide +kernel⟩
theorem ok__law_refused_right (T : TX K mg) : FnOk P w K mg base CX0 14 (f__law_refused_right K) (fdO K (f__law_refused_right K)) ["_law_well_here", "_law_sheet"] (sp_refused_right K) := by
  refine (F__law_refused_right T).ok sc__law_refused_right (fun vs H Q E h => ?_) (fun cdv A outer s H vs Q E hr h => ?_)
  · obtain ⟨_, _, _, _, _, _, _, rfl, _⟩ := h; rfl
  · obtain ⟨G0, p, c, ps, d, kvs, hs, rfl, e, mw, c0, c9, ms, hD, hk, hz, hsz, k⟩ := h
    have hne : ps ≠ p ∧ d ≠ p := by
      obtain ⟨a, b, m, _⟩ := mw
      obtain ⟨dx, mo⟩ := ms.o
      exact ⟨(fun q => by have h1 := mo.1; rw [q, m.1] at h1; cases h1), (fun q => by have h1 := ms.d.1; rw [q, m.1] at h1; cases h1)⟩
    refine ⟨_, PSs.nox (pss_cons (ps_set (i := 2) sc__law_refused_right.nd rfl (by first | exact Or.inl rfl | exact Or.inr rfl) (pe_make (mk_Block T) (ok_Block___init__ T) (hr.mono (by decide)) (by rfl) (g_Block T) (b_Block___init___5 T).choose_spec.2 (b_Block___init___5 T).choose_spec.1 pass0 (pa_cons pe_int (pa_cons pe_int (pa_cons pe_int (pa_cons pe_int pa_nil))))))
      (pss_cons (ps_set (i := 3) sc__law_refused_right.nd rfl (by first | exact Or.inl rfl | exact Or.inr rfl) (pe_ix (ixLK (K := K) (by rfl)) (pe_lst (pa_cons pe_non (pa_cons pe_str (pa_cons (pe_lst (pa_cons (pv 2) pa_nil)) (pa_cons (pv 2) (pa_cons (pe_make0 (mk_Sheet T) (ok_Sheet___init__ T) (hr.mono (by decide)) (by rfl) (g_Sheet T) (b_Sheet___init__ T) .nil pass0) (pa_cons pe_bl (pa_cons pe_int (pa_cons (pe_lst pa_nil) (pa_cons pe_str pa_nil)))))))))) (pe_call (ok__law_draw T) (hr.mono (by decide)) (by rfl) (g__law_draw T) (F__law_draw T).kp (b__law_draw T) .nil pass0 (pa_cons (pv 0) (pa_cons pe_int pa_nil))) (fun _ _ => rfl)))
      (pss_cons (ps_set (i := 4) sc__law_refused_right.nd rfl (by first | exact Or.inl rfl | exact Or.inr rfl) (pe_ix (ixLK (K := K) (by rfl)) (pe_lst (pa_cons pe_non (pa_cons pe_str (pa_cons (pe_make0 (mk_Area T) (ok_Area___init__ T) (hr.mono (by decide)) (by rfl) (g_Area T) (b_Area___init___1 T).choose_spec.2 (b_Area___init___1 T).choose_spec.1 pass0) (pa_cons (pe_lst pa_nil) (pa_cons pe_dnewK (pa_cons pe_bl (pa_cons pe_int (pa_cons (pe_lst (pa_cons (pe_tup (pa_cons pe_str (pa_cons pe_str pa_nil))) pa_nil)) pa_nil))))))))) (pe_call (ok__law_draw T) (hr.mono (by decide)) (by rfl) (g__law_draw T) (F__law_draw T).kp (b__law_draw T) .nil pass0 (pa_cons (pv 0) (pa_cons pe_int pa_nil))) (fun _ _ => rfl)))
      (pss_cons (ps_set (i := 5) sc__law_refused_right.nd rfl (by first | exact Or.inl rfl | exact Or.inr rfl) (pe_lst (pa_cons pe_non (pa_cons (pe_tup (pa_cons pe_int pa_nil)) (pa_cons (pe_tup (pa_cons pe_int (pa_cons pe_int pa_nil))) (pa_cons (pe_tup (pa_cons pe_int (pa_cons pe_int pa_nil))) (pa_cons (pe_tup (pa_cons pe_int (pa_cons pe_bl pa_nil))) (pa_cons (pe_lst (pa_cons pe_int (pa_cons pe_int pa_nil))) (pa_cons (pe_tup (pa_cons pe_int (pa_cons pe_int (pa_cons pe_int pa_nil)))) (pa_cons pe_str (pa_cons (pe_tup (pa_cons pe_int (pa_cons pe_str pa_nil))) (pa_cons pe_int (pa_cons (pe_tup (pa_cons pe_bl (pa_cons pe_int pa_nil))) pa_nil)))))))))))))
      (pss_cons (ps_set (i := 5) sc__law_refused_right.nd rfl (by first | exact Or.inl rfl | exact Or.inr rfl) (pe_ix (ixLK (K := K) (by rfl)) (pv 5) (pe_call (ok__law_draw T) (hr.mono (by decide)) (by rfl) (g__law_draw T) (F__law_draw T).kp (b__law_draw T) .nil pass0 (pa_cons (pv 0) (pa_cons pe_int pa_nil))) (fun _ _ => rfl)))
      (pss_cons (ps_set (i := 6) sc__law_refused_right.nd rfl (by first | exact Or.inl rfl | exact Or.inr rfl) (pe_ix (ixLK (K := K) (by rfl)) (pe_lst (pa_cons pe_non (pa_cons (pe_lst pa_nil) (pa_cons pe_str (pa_cons (pv 2) (pa_cons pe_int (pa_cons (pe_tup (pa_cons pe_int (pa_cons pe_int pa_nil))) (pa_cons pe_bl pa_nil)))))))) (pe_call (ok__law_draw T) (hr.mono (by decide)) (by rfl) (g__law_draw T) (F__law_draw T).kp (b__law_draw T) .nil pass0 (pa_cons (pv 0) (pa_cons pe_int pa_nil))) (fun _ _ => rfl)))
      (pss_cons (ps_set (i := 7) sc__law_refused_right.nd rfl (by first | exact Or.inl rfl | exact Or.inr rfl) (pe_ix (ixLK (K := K) (by rfl)) (pe_lst (pa_cons pe_non (pa_cons pe_str (pa_cons pe_bl (pa_cons (pe_tup (pa_cons pe_int pa_nil)) (pa_cons (pe_lst pa_nil) (pa_cons pe_bl pa_nil))))))) (pe_call (ok__law_draw T) (hr.mono (by decide)) (by rfl) (g__law_draw T) (F__law_draw T).kp (b__law_draw T) .nil pass0 (pa_cons (pv 0) (pa_cons pe_int pa_nil))) (fun _ _ => rfl)))
      (pss_cons (ps_set (i := 8) sc__law_refused_right.nd rfl (by first | exact Or.inl rfl | exact Or.inr rfl) (pe_call (ok__law_no_value T) (hr.mono (by decide)) (by rfl) (g__law_no_value T) (F__law_no_value T).kp (b__law_no_value T) .nil pass0 (pa_cons (pv 0) pa_nil)))
      (pss_cons (ps_set (i := 9) sc__law_refused_right.nd rfl (by first | exact Or.inl rfl | exact Or.inr rfl) (pe_make (mk_Area T) (ok_Area___init__ T) (hr.mono (by decide)) (by rfl) (g_Area T) (b_Area___init___2 T).choose_spec.2 (b_Area___init___2 T).choose_spec.1 pass0 (pa_cons (pe_lst (pa_cons (pv 2) pa_nil)) pa_nil)))
      (pss_cons (ps_set (i := 10) sc__law_refused_right.nd rfl (by first | exact Or.inl rfl | exact Or.inr rfl) (pe_lst (pa_cons (pe_tup (pa_cons pe_int (pa_cons (pv 3) (pa_cons (pv 8) (pa_cons pe_str pa_nil))))) (pa_cons (pe_tup (pa_cons pe_int (pa_cons (pv 3) (pa_cons pe_str (pa_cons pe_str pa_nil))))) (pa_cons (pe_tup (pa_cons pe_int (pa_cons (pv 9) (pa_cons (pv 8) (pa_cons pe_str pa_nil))))) pa_nil)))))
      (pss_cons (ps_set (i := 10) sc__law_refused_right.nd rfl (by first | exact Or.inl rfl | exact Or.inr rfl) (pe_op op_cat (pv 10) (pe_lst (pa_cons (pe_tup (pa_cons pe_int (pa_cons (pv 5) (pa_cons pe_non (pa_cons pe_str pa_nil))))) (pa_cons (pe_tup (pa_cons pe_int (pa_cons (pv 8) (pa_cons pe_non (pa_cons pe_str pa_nil))))) (pa_cons (pe_tup (pa_cons pe_int (pa_cons (pv 6) (pa_cons pe_non (pa_cons pe_str pa_nil))))) pa_nil))))))
      (pss_cons (ps_set (i := 10) sc__law_refused_right.nd rfl (by first | exact Or.inl rfl | exact Or.inr rfl) (pe_op op_cat (pv 10) (pe_lst (pa_cons (pe_tup (pa_cons pe_int (pa_cons (pv 4) (pa_cons (pv 7) (pa_cons pe_str pa_nil))))) (pa_cons (pe_tup (pa_cons pe_int (pa_cons (pe_make0 (mk_Sheet T) (ok_Sheet___init__ T) (hr.mono (by decide)) (by rfl) (g_Sheet T) (b_Sheet___init__ T) .nil pass0) (pa_cons (pv 7) (pa_cons pe_str pa_nil))))) pa_nil)))))
      (pss_cons (ps_set (i := 10) sc__law_refused_right.nd rfl (by first | exact Or.inl rfl | exact Or.inr rfl) (pe_op op_cat (pv 10) (pe_lst (pa_cons (pe_tup (pa_cons pe_int (pa_cons (pe_make0 (mk_Sheet T) (ok_Sheet___init__ T) (hr.mono (by decide)) (by rfl) (g_Sheet T) (b_Sheet___init__ T) .nil pass0) (pa_cons (pv 7) (pa_cons pe_str pa_nil))))) (pa_cons (pe_tup (pa_cons pe_int (pa_cons (pv 4) (pa_cons pe_int (pa_cons pe_str pa_nil))))) pa_nil)))))
      (pss_cons (ps_set (i := 10) sc__law_refused_right.nd rfl (by first | exact Or.inl rfl | exact Or.inr rfl) (pe_op op_cat (pv 10) (pe_lst (pa_cons (pe_tup (pa_cons pe_int (pa_cons (pv 4) (pa_cons pe_non (pa_cons pe_str pa_nil))))) (pa_cons (pe_tup (pa_cons pe_int (pa_cons (pv 4) (pa_cons pe_non (pa_cons pe_str pa_nil))))) pa_nil)))))
      (pss_cons (ps_set (i := 10) sc__law_refused_right.nd rfl (by first | exact Or.inl rfl | exact Or.inr rfl) (pe_op op_cat (pv 10) (pe_lst (pa_cons (pe_tup (pa_cons pe_int (pa_cons (pv 4) (pa_cons pe_non (pa_cons pe_str pa_nil))))) (pa_cons (pe_tup (pa_cons pe_int (pa_cons (pv 4) (pa_cons pe_non (pa_cons pe_str pa_nil))))) (pa_cons (pe_tup (pa_cons pe_int (pa_cons (pe_make0 (mk_Area T) (ok_Area___init__ T) (hr.mono (by decide)) (by rfl) (g_Area T) (b_Area___init___1 T).choose_spec.2 (b_Area___init___1 T).choose_spec.1 pass0) (pa_cons (pv 8) (pa_cons pe_str pa_nil))))) pa_nil))))))
      (pss_cons (ps_for PassesOwn.never rfl (pi_list (pv 10)) (pg_tup (by rfl) (pgs_cons (pg_name (i := 11) sc__law_refused_right.nd rfl (by first | exact Or.inl rfl | exact Or.inr rfl)) (pgs_cons (pg_name (i := 12) sc__law_refused_right.nd rfl (by first | exact Or.inl rfl | exact Or.inr rfl)) (pgs_cons (pg_name (i := 13) sc__law_refused_right.nd rfl (by first | exact Or.inl rfl | exact Or.inr rfl)) (pgs_cons (pg_name (i := 14) sc__law_refused_right.nd rfl (by first | exact Or.inl rfl | exact Or.inr rfl)) pgs_nil))))) (pss_one (ps_if (pt_cmpR (op_neD hr.units) (pe_call (ok__law_said T) (hr.mono (by decide)) (by rfl) (g__law_said T) (F__law_said T).kp (b__law_said T) .nil pass0 (pa_cons (pv 11) (pa_cons (pv 1) (pa_cons (pv 12) (pa_cons (pv 13) pa_nil))))) (pe_lst (pa_cons (pv 14) pa_nil)) (nomark _)) (pss_one (ps_ret pe_bl)) pss_nil)))
      (pss_one (ps_ret pe_bl)))))))))))))))))), ?_⟩
    walk_at "go"
    refine mkBlk (K := K) (b := ⟨2, 2, some 3, some 3⟩) rfl (by decide) e fun pb G1 H1 s1 hb => ?_
    walk_at "go"
    refine lstI s1.i (by show 1 ≤ 1000; decide) fun l2 G2 H2 s2 g2 => ?_
    have a2 := s1.trans s2
    walk_at "go"
    refine mkSheetF (K := K) T rfl a2.i fun p3 G3 H3 s3 h3 => ?_
    have a3 := a2.trans s3
    walk_at "go"
    refine lstI a3.i (by show 0 ≤ 1000; decide) fun l4 G4 H4 s4 g4 => ?_
    have a4 := a3.trans s4
    walk_at "go"
    refine lstI a4.i (by show 9 ≤ 1000; decide) fun l5 G5 H5 s5 g5 => ?_
    have a5 := a4.trans s5
    walk_at "go"
    refine drawG a5.i (MuW.st mw a5) c0 (by omega) (by decide) (by decide) fun H6 i6 c6 i60 i61 c60 c61 s6 m6 => ?_
    have u6 : Stm [p] G0 H G5 H6 := (St.toW p a5).trans s6
    refine pick (s6.i _ _ g5) i60 i61 (P := fun v => AreaT K G5 v none) (by
      intro v hv
      simp only [List.mem_cons, List.not_mem_nil, or_false] at hv
      rcases hv with rfl | rfl | rfl | rfl | rfl | rfl | rfl | rfl | rfl
      · exact .inl ⟨rfl, _, odNon, i_NoneType_Area T⟩
      · exact .inl ⟨rfl, _, odStr, i_str_Area T⟩
      · exact .inl ⟨rfl, _, odLst (s5.g _ _ (s4.g _ _ (s3.g _ _ g2))), i_list_Area T⟩
      · exact .inl ⟨rfl, _, fun H' e' => IsBlk.ty T (IsBlk.mono _ _ _ _ (((s2.g.trans s3.g).trans s4.g).trans s5.g) hb) e', i_Block_Area T⟩
      · exact .inl ⟨rfl, _, h3.mono (s4.g.trans s5.g), i_Sheet_Area T⟩
      · exact .inl ⟨rfl, _, odBl, i_bool_Area T⟩
      · exact .inl ⟨rfl, _, odInt, i_int_Area T⟩
      · exact .inl ⟨rfl, _, odLst (s5.g _ _ g4), i_list_Area T⟩
      · exact .inl ⟨rfl, _, odStr, i_str_Area T⟩) ?_
    intro vna hna5
    walk_at "go"
    refine mkArea (K := K) (v := .non) rfl (.inl ⟨rfl, rfl⟩) okN_nil s6.i fun pa7 G7 H7 s7 h7 => ?_
    walk_at "go"
    refine lstI s7.i (by show 0 ≤ 1000; decide) fun l8 G8 H8 s8 g8 => ?_
    walk_at "go"
    refine dnewK s8.i fun l9 H9 hl9 s9 m9 => ?_
    obtain ⟨s9f, g9⟩ := freeze m9 s9.i
    have s9a : St G8 H8 (upd G8 l9 (.dK [])) H9 := Stm.fresh s9 s9f fun a ha => by rw [List.mem_singleton.mp ha]; exact hl9
    generalize upd G8 l9 (.dK []) = G9 at s9f g9 s9a
    walk_at "go"
    refine tupI s9a.i (by show 2 ≤ 1000; decide) fun l10 G10 H10 s10 g10 => ?_
    walk_at "go"
    refine lstI s10.i (by show 1 ≤ 1000; decide) fun l11 G11 H11 s11 g11 => ?_
    walk_at "go"
    refine lstI s11.i (by show 8 ≤ 1000; decide) fun l12 G12 H12 s12 g12 => ?_
    have a12 := ((((s7.trans s8).trans s9a).trans s10).trans s11).trans s12
    walk_at "go"
    refine drawG a12.i (MuW.st m6 a12) (by omega) (by omega) (by decide) (by decide) fun H13 i13 c13 i130 i131 c130 c131 s13 m13 => ?_
    have u13 : Stm [p] G0 H G12 H13 := (u6.trans (St.toW p a12)).trans s13
    refine pick (s13.i _ _ g12) i130 i131 (P := fun v => ShD K G12 v false) (by
      intro v hv
      simp only [List.mem_cons, List.not_mem_nil, or_false] at hv
      rcases hv with rfl | rfl | rfl | rfl | rfl | rfl | rfl | rfl
      · exact ⟨_, odNon, i_NoneType_Sheet T⟩
      · exact ⟨_, odStr, i_str_Sheet T⟩
      · exact ⟨_, fun H' e' => IsAr.ty T (IsAr.mono _ _ _ _ ((((s8.g.trans s9a.g).trans s10.g).trans s11.g).trans s12.g) h7) e', i_Area_Sheet T⟩
      · exact ⟨_, odLst (s12.g _ _ (s11.g _ _ (s10.g _ _ (s9a.g _ _ g8)))), i_list_Sheet T⟩
      · exact ⟨_, odDk (s12.g _ _ (s11.g _ _ (s10.g _ _ g9))), i_dict_Sheet T⟩
      · exact ⟨_, odBl, i_bool_Sheet T⟩
      · exact ⟨_, odInt, i_int_Sheet T⟩
      · exact ⟨_, odLst (s12.g _ _ g11), i_list_Sheet T⟩) ?_
    intro vns hns13
    walk_at "go"
    refine tupI s13.i (by show 1 ≤ 1000; decide) fun l14 G14 H14 s14 g14 => ?_
    walk_at "go"
    refine tupI s14.i (by show 2 ≤ 1000; decide) fun l15 G15 H15 s15 g15 => ?_
    walk_at "go"
    refine tupI s15.i (by show 2 ≤ 1000; decide) fun l16 G16 H16 s16 g16 => ?_
    walk_at "go"
    refine tupI s16.i (by show 2 ≤ 1000; decide) fun l17 G17 H17 s17 g17 => ?_
    walk_at "go"
    refine lstI s17.i (by show 2 ≤ 1000; decide) fun l18 G18 H18 s18 g18 => ?_
    walk_at "go"
    refine tupI s18.i (by show 3 ≤ 1000; decide) fun l19 G19 H19 s19 g19 => ?_
    walk_at "go"
    refine tupI s19.i (by show 2 ≤ 1000; decide) fun l20 G20 H20 s20 g20 => ?_
    walk_at "go"
    refine tupI s20.i (by show 2 ≤ 1000; decide) fun l21 G21 H21 s21 g21 => ?_
    walk_at "go"
    refine lstI s21.i (by show 11 ≤ 1000; decide) fun l22 G22 H22 s22 g22 => ?_
    have a22 := (((((((s14.trans s15).trans s16).trans s17).trans s18).trans s19).trans s20).trans s21).trans s22
    walk_at "go"
    refine drawG a22.i (MuW.st m13 a22) (by omega) (by omega) (by decide) (by decide) fun H23 i23 c23 i230 i231 c230 c231 s23 m23 => ?_
    have u23 : Stm [p] G0 H G22 H23 := (u13.trans (St.toW p a22)).trans s23
    refine pick (s23.i _ _ g22) i230 i231 (P := fun v => CellT K G22 v false) (by
      have e14 := (((((((s15.g.trans s16.g).trans s17.g).trans s18.g).trans s19.g).trans s20.g).trans s21.g).trans s22.g)
      have e15 := ((((((s16.g.trans s17.g).trans s18.g).trans s19.g).trans s20.g).trans s21.g).trans s22.g)
      have e16 := (((((s17.g.trans s18.g).trans s19.g).trans s20.g).trans s21.g).trans s22.g)
      have e17 := ((((s18.g.trans s19.g).trans s20.g).trans s21.g).trans s22.g)
      have e18 := (((s19.g.trans s20.g).trans s21.g).trans s22.g)
      have e19 := ((s20.g.trans s21.g).trans s22.g)
      have e20 := (s21.g.trans s22.g)
      have kk : ∀ {q : Addr} {xs : List V}, G22 q = some (.tup xs) → (∀ y ∈ xs, Kd K G22 y) → xs.length ≤ 100 → (decide (xs.length = 2) && xs.all countV) = false → CellT K G22 (.ref q) false := fun h1 h2 h3 h4 => .inr ⟨_, _, rfl, h1, h2, h3, h4.symm⟩
      intro v hv
      simp only [List.mem_cons, List.not_mem_nil, or_false] at hv
      rcases hv with rfl | rfl | rfl | rfl | rfl | rfl | rfl | rfl | rfl | rfl | rfl
      · exact .inl ⟨rfl, _, odNon, kit_ty (by decide +kernel)⟩
      · exact kk (e14 _ _ g14) (by intro y hy; simp only [List.mem_cons, List.not_mem_nil, or_false] at hy; rcases hy with rfl; exact Kd.int) (by decide) rfl
      · exact kk (e15 _ _ g15) (by intro y hy; simp only [List.mem_cons, List.not_mem_nil, or_false] at hy; rcases hy with rfl | rfl <;> exact Kd.int) (by decide) rfl
      · exact kk (e16 _ _ g16) (by intro y hy; simp only [List.mem_cons, List.not_mem_nil, or_false] at hy; rcases hy with rfl | rfl <;> exact Kd.int) (by decide) rfl
      · exact kk (e17 _ _ g17) (by intro y hy; simp only [List.mem_cons, List.not_mem_nil, or_false] at hy; rcases hy with rfl | rfl; exact Kd.int; exact kdBl) (by decide) rfl
      · exact .inl ⟨rfl, _, odLst (e18 _ _ g18), kit_ty (by decide +kernel)⟩
      · exact kk (e19 _ _ g19) (by intro y hy; simp only [List.mem_cons, List.not_mem_nil, or_false] at hy; rcases hy with rfl | rfl | rfl <;> exact Kd.int) (by decide) rfl
      · exact .inl ⟨rfl, _, odStr, kit_ty (by decide +kernel)⟩
      · exact kk (e20 _ _ g20) (by intro y hy; simp only [List.mem_cons, List.not_mem_nil, or_false] at hy; rcases hy with rfl | rfl; exact Kd.int; exact kdStr) (by decide) rfl
      · exact .inl ⟨rfl, _, odInt, kit_ty (by decide +kernel)⟩
      · exact kk (s22.g _ _ g21) (by intro y hy; simp only [List.mem_cons, List.not_mem_nil, or_false] at hy; rcases hy with rfl | rfl; exact kdBl; exact Kd.int) (by decide) rfl) ?_
    intro vnc hnc23
    walk_at "go"
    refine lstI s23.i (by show 0 ≤ 1000; decide) fun l24 G24 H24 s24 g24 => ?_
    walk_at "go"
    refine tupI s24.i (by show 2 ≤ 1000; decide) fun l25 G25 H25 s25 g25 => ?_
    walk_at "go"
    refine lstI s25.i (by show 7 ≤ 1000; decide) fun l26 G26 H26 s26 g26 => ?_
    have a26 := (s24.trans s25).trans s26
    walk_at "go"
    refine drawG a26.i (MuW.st m23 a26) (by omega) (by omega) (by decide) (by decide) fun H27 i27 c27 i270 i271 c270 c271 s27 m27 => ?_
    have u27 : Stm [p] G0 H G26 H27 := (u23.trans (St.toW p a26)).trans s27
    have hb26 : IsBlk K G26 (.ref pb) ⟨2, 2, some 3, some 3⟩ := IsBlk.mono _ _ _ _ (((((s2.g.trans (s3.g.trans (s4.g.trans s5.g))).trans a12.g).trans a22.g).trans a26.g)) hb
    refine pick (s27.i _ _ g26) i270 i271 (P := fun v => ∃ t, Od K G26 v t ∧ PySem.W.kitOne K t (.ref (He.ga K "Change")) = some false) (by
      intro v hv
      simp only [List.mem_cons, List.not_mem_nil, or_false] at hv
      rcases hv with rfl | rfl | rfl | rfl | rfl | rfl | rfl
      · exact ⟨_, odNon, i_NoneType_Change T⟩
      · exact ⟨_, odLst (s26.g _ _ (s25.g _ _ g24)), i_list_Change T⟩
      · exact ⟨_, odStr, i_str_Change T⟩
      · exact ⟨_, fun H' e' => IsBlk.ty T hb26 e', i_Block_Change T⟩
      · exact ⟨_, odInt, i_int_Change T⟩
      · exact ⟨_, odTup (s26.g _ _ g25), i_tuple_Change T⟩
      · exact ⟨_, odBl, i_bool_Change T⟩) ?_
    intro vch hch27
    walk_at "go"
    refine tupI s27.i (by show 1 ≤ 1000; decide) fun l28 G28 H28 s28 g28 => ?_
    walk_at "go"
    refine lstI s28.i (by show 0 ≤ 1000; decide) fun l29 G29 H29 s29 g29 => ?_
    walk_at "go"
    refine lstI s29.i (by show 6 ≤ 1000; decide) fun l30 G30 H30 s30 g30 => ?_
    have a30 := (s28.trans s29).trans s30
    walk_at "go"
    refine drawG a30.i (MuW.st m27 a30) (by omega) (by omega) (by decide) (by decide) fun H31 i31 c31 i310 i311 c310 c311 s31 m31 => ?_
    have u31 : Stm [p] G0 H G30 H31 := (u27.trans (St.toW p a30)).trans s31
    refine pick (s31.i _ _ g30) i310 i311 (P := fun v => Kd K G30 v ∧ isIntV v = false) (by
      intro v hv
      simp only [List.mem_cons, List.not_mem_nil, or_false] at hv
      rcases hv with rfl | rfl | rfl | rfl | rfl | rfl
      · exact ⟨kdNon, rfl⟩
      · exact ⟨kdStr, rfl⟩
      · exact ⟨kdBl, rfl⟩
      · exact ⟨kdOd (odTup (s30.g _ _ (s29.g _ _ g28))) (b1 := false) (b2 := false) (kit_ty (by decide +kernel)) (kit_ty (by decide +kernel)) rfl, rfl⟩
      · exact ⟨kdOd (odLst (s30.g _ _ g29)) (b1 := false) (b2 := false) (kit_ty (by decide +kernel)) (kit_ty (by decide +kernel)) rfl, rfl⟩
      · exact ⟨kdBl, rfl⟩) ?_
    intro vnn hnn31
    walk_at "go"
    refine ⟨G30, p, c31, rfl, s31.i, m31, by omega, by omega, fun G32 H32 c32 vnv c320 c321 s32 m32 hnv32 => ?_⟩
    have u32 : Stm [p] G0 H G32 H32 := u31.trans s32
    walk_at "go"
    refine lstI s32.i (by show 1 ≤ 1000; decide) fun l33 G33 H33 s33 g33 => ?_
    walk_at "go"
    have e26 : Ex G26 G33 := (a30.g.trans s32.g).trans s33.g
    refine mkArea (K := K) (v := .ref l33) (xs := [⟨2, 2, some 3, some 3⟩]) rfl (.inr ⟨l33, _, rfl, g33, .cons (IsBlk.mono _ _ _ _ e26 hb26) .nil⟩) (by decide +kernel) s33.i fun pa Gb Hb s34 har => ?_
    have ub : Stm [p] G0 H Gb Hb := u32.trans (St.toW p (s33.trans s34))
    have mb : MuW Gb Hb p c32 := MuW.st (MuW.st m32 s33) s34
    have msb : MuS K Gb Hb ps d kvs := ms.to ub (by simpa using hne.1) (by simpa using hne.2)
    have hna : AreaT K Gb vna none := AreaT.mono hna5 ((((a12.g.trans a22.g).trans (a26.g.trans e26))).trans s34.g)
    have hns : ShD K Gb vns false := ShD.mono hns13 (((a22.g.trans a26.g).trans e26).trans s34.g)
    have hnc : CellT K Gb vnc false := CellT.mono hnc23 ((a26.g.trans e26).trans s34.g)
    have hch : ∃ t, Od K Gb vch t ∧ PySem.W.kitOne K t (.ref (He.ga K "Change")) = some false := let ⟨t, h1, h2⟩ := hch27; ⟨t, h1.mono (e26.trans s34.g), h2⟩
    have hnn : Kd K Gb vnn ∧ isIntV vnn = false := ⟨hnn31.1.mono ((s32.g.trans s33.g).trans s34.g), hnn31.2⟩
    have hnv : ValT K Gb vnv false := ValT.mono hnv32 (s33.g.trans s34.g)
    have sb : St Gb Hb Gb Hb := Stm.refl s34.i
    clear hna5 hns13 hnc23 hch27 hnn31 hnv32
    walk_at "go"
    refine tupI sb.i (by show 4 ≤ 1000; decide) fun t1 G1 H1 s1 g1 => ?_
    have a1 := sb.trans s1
    walk_at "go"
    refine tupI a1.i (by show 4 ≤ 1000; decide) fun t2 G2 H2 s2 g2 => ?_
    have a2 := a1.trans s2
    walk_at "go"
    refine tupI a2.i (by show 4 ≤ 1000; decide) fun t3 G3 H3 s3 g3 => ?_
    have a3 := a2.trans s3
    walk_at "go"
    refine lstI a3.i (by show 3 ≤ 1000; decide) fun l4 G4 H4 s4 g4 => ?_
    have a4 := a3.trans s4
    have b4 : IsL (Ask K) G4 (.ref l4) [(0, vna, vnv, "area"), (0, vna, (.str "a"), "area"), (0, (.ref pa), vnv, "value")] := ⟨l4, _, rfl, g4, (.cons ⟨t1, rfl, ((((Ex.refl _).trans s2.g).trans s3.g).trans s4.g) _ _ g1, (AskOk.mono (.area1 hna hnv) a4.g)⟩ (.cons ⟨t2, rfl, (((Ex.refl _).trans s3.g).trans s4.g) _ _ g2, (AskOk.mono (.area1 hna (.inr ⟨_, rfl, by decide +kernel, rfl⟩)) a4.g)⟩ (.cons ⟨t3, rfl, ((Ex.refl _).trans s4.g) _ _ g3, (AskOk.mono (.area2 (.inr ⟨_, rfl, har⟩) hnv) a4.g)⟩ .nil)))⟩
    walk_at "go"
    refine tupI a4.i (by show 4 ≤ 1000; decide) fun t5 G5 H5 s5 g5 => ?_
    have a5 := a4.trans s5
    walk_at "go"
    refine tupI a5.i (by show 4 ≤ 1000; decide) fun t6 G6 H6 s6 g6 => ?_
    have a6 := a5.trans s6
    walk_at "go"
    refine tupI a6.i (by show 4 ≤ 1000; decide) fun t7 G7 H7 s7 g7 => ?_
    have a7 := a6.trans s7
    walk_at "go"
    refine lstI a7.i (by show 3 ≤ 1000; decide) fun l8 G8 H8 s8 g8 => ?_
    have a8 := a7.trans s8
    have b8 : IsL (Ask K) G8 (.ref l8) [(1, vnc, .non, "cell"), (2, vnv, .non, "value"), (3, vch, .non, "change")] := ⟨l8, _, rfl, g8, (.cons ⟨t5, rfl, ((((Ex.refl _).trans s6.g).trans s7.g).trans s8.g) _ _ g5, (AskOk.mono (.cell hnc) a8.g)⟩ (.cons ⟨t6, rfl, (((Ex.refl _).trans s7.g).trans s8.g) _ _ g6, (AskOk.mono (.value hnv) a8.g)⟩ (.cons ⟨t7, rfl, ((Ex.refl _).trans s8.g) _ _ g7, (AskOk.mono (.change hch.choose_spec.1 hch.choose_spec.2) a8.g)⟩ .nil)))⟩
    walk_at "go"
    refine catL (R := Ask K) Ask.mono (IsL.mono Ask.mono _ _ _ _ (((((Ex.refl _).trans s5.g).trans s6.g).trans s7.g).trans s8.g) b4) b8 a8.i (by show 6 ≤ sizeLine; decide) fun l9 G9 H9 s9 b9 => ?_
    have a9 := a8.trans s9
    walk_at "go"
    refine tupI a9.i (by show 4 ≤ 1000; decide) fun t10 G10 H10 s10 g10 => ?_
    have a10 := a9.trans s10
    walk_at "go"
    refine mkSheetF (K := K) T rfl a10.i fun sh11 G11 H11 s11 hsh11 => ?_
    have a11 := a10.trans s11
    walk_at "go"
    refine tupI a11.i (by show 4 ≤ 1000; decide) fun t12 G12 H12 s12 g12 => ?_
    have a12 := a11.trans s12
    walk_at "go"
    refine lstI a12.i (by show 2 ≤ 1000; decide) fun l13 G13 H13 s13 g13 => ?_
    have a13 := a12.trans s13
    have b13 : IsL (Ask K) G13 (.ref l13) [(4, vns, vnn, "sheet"), (4, (.ref sh11), vnn, "number")] := ⟨l13, _, rfl, g13, (.cons ⟨t10, rfl, ((((Ex.refl _).trans s11.g).trans s12.g).trans s13.g) _ _ g10, (AskOk.mono (.sheet hns hnn.1) a13.g)⟩ (.cons ⟨t12, rfl, ((Ex.refl _).trans s13.g) _ _ g12, (AskOk.num ⟨_, Od.mono hsh11 (((Ex.refl _).trans s12.g).trans s13.g), i_Sheet_Sheet T⟩ (Kd.mono hnn.1 a13.g) hnn.2)⟩ .nil))⟩
    walk_at "go"
    refine catL (R := Ask K) Ask.mono (IsL.mono Ask.mono _ _ _ _ (((((Ex.refl _).trans s10.g).trans s11.g).trans s12.g).trans s13.g) b9) b13 a13.i (by show 8 ≤ sizeLine; decide) fun l14 G14 H14 s14 b14 => ?_
    have a14 := a13.trans s14
    walk_at "go"
    refine mkSheetF (K := K) T rfl a14.i fun sh15 G15 H15 s15 hsh15 => ?_
    have a15 := a14.trans s15
    walk_at "go"
    refine tupI a15.i (by show 4 ≤ 1000; decide) fun t16 G16 H16 s16 g16 => ?_
    have a16 := a15.trans s16
    walk_at "go"
    refine tupI a16.i (by show 4 ≤ 1000; decide) fun t17 G17 H17 s17 g17 => ?_
    have a17 := a16.trans s17
    walk_at "go"
    refine lstI a17.i (by show 2 ≤ 1000; decide) fun l18 G18 H18 s18 g18 => ?_
    have a18 := a17.trans s18
    have b18 : IsL (Ask K) G18 (.ref l18) [(5, (.ref sh15), vnn, "number"), (4, vns, (.int 1), "sheet")] := ⟨l18, _, rfl, g18, (.cons ⟨t16, rfl, (((Ex.refl _).trans s17.g).trans s18.g) _ _ g16, (AskOk.numc ⟨_, Od.mono hsh15 ((((Ex.refl _).trans s16.g).trans s17.g).trans s18.g), i_Sheet_Sheet T⟩ (Kd.mono hnn.1 a18.g) hnn.2)⟩ (.cons ⟨t17, rfl, ((Ex.refl _).trans s18.g) _ _ g17, (AskOk.mono (.sheet hns Kd.int) a18.g)⟩ .nil))⟩
    walk_at "go"
    refine catL (R := Ask K) Ask.mono (IsL.mono Ask.mono _ _ _ _ (((((Ex.refl _).trans s15.g).trans s16.g).trans s17.g).trans s18.g) b14) b18 a18.i (by show 10 ≤ sizeLine; decide) fun l19 G19 H19 s19 b19 => ?_
    have a19 := a18.trans s19
    walk_at "go"
    refine tupI a19.i (by show 4 ≤ 1000; decide) fun t20 G20 H20 s20 g20 => ?_
    have a20 := a19.trans s20
    walk_at "go"
    refine tupI a20.i (by show 4 ≤ 1000; decide) fun t21 G21 H21 s21 g21 => ?_
    have a21 := a20.trans s21
    walk_at "go"
    refine lstI a21.i (by show 2 ≤ 1000; decide) fun l22 G22 H22 s22 g22 => ?_
    have a22 := a21.trans s22
    have b22 : IsL (Ask K) G22 (.ref l22) [(6, vns, .non, "sheet"), (7, vns, .non, "sheet")] := ⟨l22, _, rfl, g22, (.cons ⟨t20, rfl, (((Ex.refl _).trans s21.g).trans s22.g) _ _ g20, (AskOk.mono (.un (.inl rfl) hns) a22.g)⟩ (.cons ⟨t21, rfl, ((Ex.refl _).trans s22.g) _ _ g21, (AskOk.mono (.un (.inr (.inl rfl)) hns) a22.g)⟩ .nil))⟩
    walk_at "go"
    refine catL (R := Ask K) Ask.mono (IsL.mono Ask.mono _ _ _ _ ((((Ex.refl _).trans s20.g).trans s21.g).trans s22.g) b19) b22 a22.i (by show 12 ≤ sizeLine; decide) fun l23 G23 H23 s23 b23 => ?_
    have a23 := a22.trans s23
    walk_at "go"
    refine tupI a23.i (by show 4 ≤ 1000; decide) fun t24 G24 H24 s24 g24 => ?_
    have a24 := a23.trans s24
    walk_at "go"
    refine tupI a24.i (by show 4 ≤ 1000; decide) fun t25 G25 H25 s25 g25 => ?_
    have a25 := a24.trans s25
    walk_at "go"
    refine mkArea (K := K) (v := .non) rfl (.inl ⟨rfl, rfl⟩) okN_nil a25.i fun sh26 G26 H26 s26 hsh26 => ?_
    have a26 := a25.trans s26
    walk_at "go"
    refine tupI a26.i (by show 4 ≤ 1000; decide) fun t27 G27 H27 s27 g27 => ?_
    have a27 := a26.trans s27
    walk_at "go"
    refine lstI a27.i (by show 3 ≤ 1000; decide) fun l28 G28 H28 s28 g28 => ?_
    have a28 := a27.trans s28
    have b28 : IsL (Ask K) G28 (.ref l28) [(8, vns, .non, "sheet"), (9, vns, .non, "sheet"), (0, (.ref sh26), vnv, "value")] := ⟨l28, _, rfl, g28, (.cons ⟨t24, rfl, (((((Ex.refl _).trans s25.g).trans s26.g).trans s27.g).trans s28.g) _ _ g24, (AskOk.mono (.un (.inr (.inr (.inl rfl))) hns) a28.g)⟩ (.cons ⟨t25, rfl, ((((Ex.refl _).trans s26.g).trans s27.g).trans s28.g) _ _ g25, (AskOk.mono (.un (.inr (.inr (.inr rfl))) hns) a28.g)⟩ (.cons ⟨t27, rfl, ((Ex.refl _).trans s28.g) _ _ g27, (AskOk.area2 (.inr ⟨_, rfl, IsAr.mono _ _ _ _ (((Ex.refl _).trans s27.g).trans s28.g) hsh26⟩) (ValT.mono hnv a28.g))⟩ .nil)))⟩
    walk_at "go"
    refine catL (R := Ask K) Ask.mono (IsL.mono Ask.mono _ _ _ _ ((((((Ex.refl _).trans s24.g).trans s25.g).trans s26.g).trans s27.g).trans s28.g) b23) b28 a28.i (by show 15 ≤ sizeLine; decide) fun l29 G29 H29 s29 b29 => ?_
    have a29 := a28.trans s29
    walk_at "go"
    generalize hzs : ([(0, vna, vnv, ("area" : Str)), (0, vna, V.str "a", ("area" : Str)), (0, V.ref pa, vnv, ("value" : Str))] ++ [(1, vnc, V.non, ("cell" : Str)), (2, vnv, V.non, ("value" : Str)), (3, vch, V.non, ("change" : Str))] ++ [(4, vns, vnn, ("sheet" : Str)), (4, V.ref sh11, vnn, ("number" : Str))] ++ [(5, V.ref sh15, vnn, ("number" : Str)), (4, vns, V.int 1, ("sheet" : Str))] ++ [(6, vns, V.non, ("sheet" : Str)), (7, vns, V.non, ("sheet" : Str))] ++ [(8, vns, V.non, ("sheet" : Str)), (9, vns, V.non, ("sheet" : Str)), (0, V.ref sh26, vnv, ("value" : Str))] : List (Int × V × V × Str)) = zs at b29
    have aL := a29
    have bL := b29
    clear hzs b29 a29
    refine forG (K := K) (R := Ask K) Ask.mono bL aL.i (fun i σ' G' H' => ∃ o11 o12 o13 o14, σ' = [some (.ref p), some (.ref ps), some (.ref pb), some vna, some vns, some vnc, some vch, some vnn, some vnv, some (.ref pa), some (.ref l29), o11, o12, o13, o14] ∧ St G29 H29 G' H')
      ⟨none, none, none, none, rfl, Stm.refl aL.i⟩ (fun i σ' G' H' _ ⟨_, _, _, _, _, s⟩ => ⟨s.g, s.i⟩) ?_ ?_
    · rintro i ⟨n, x, y, z⟩ wv σ1 G1 H1 hi ⟨o11, o12, o13, o14, rfl, s1⟩ ⟨t, rfl, ht, hA⟩
      refine x_gtup (s1.i _ _ ht) rfl ?_
      walk_at "go"
      have sA := aL.trans s1
      refine hA.said s1.i (MuS.st msb sA) (hD.mono (ub.g.trans sA.g)) hk hz hsz fun G2 H2 r s2 hr2 => ?_
      walk_at "go"
      refine lstI s2.i (by show 1 ≤ 1000; decide) fun lw G3 H3 s3 g3 => ?_
      walk_at "go"
      refine neWord hA.word (IsL.mono IsS.mono _ _ _ _ s3.g hr2) s3.i (s3.i _ _ g3) ?_
      walk_at "go"
      exact ⟨_, _, _, _, _, rfl, (s1.trans s2).trans s3⟩
    · rintro σ' G1 H1 ⟨o11, o12, o13, o14, rfl, s1⟩
      walk_at "go"
      have sA := aL.trans s1
      exact k G1 H1 c32 (by omega) (by omega) (ub.trans (St.toW p sA)) (MuW.st mb sA)
end
end GT

/-! ## K62ZA -/
set_option Elab.async false
set_option linter.all false
set_option maxRecDepth 100000
set_option maxHeartbeats 4000000
namespace GT
open PySem PySem.Spec PyProof.Rows L2 G
local macro_rules | `(tactic| walk_at "ex") => `(tactic| first | exact Ex.refl _ | assumption | exact Stm.g (by assumption) | (refine Ex.trans ?_ (Stm.g (by assumption)); walk_at "ex"))
local macro_rules | `(tactic| walk_at "st") => `(tactic| first | exact Stm.refl (by assumption) | assumption | (refine Stm.trans ?_ (by assumption); walk_at "st"))
local macro_rules | `(tactic| walk_at "i") => `(tactic| first | assumption | exact Stm.i (by assumption))
local macro_rules | `(tactic| walk_at "fact") => `(tactic| first | rfl | exact (rfl : V.non = optV none) | exact (rfl : V.int _ = optV (some _)) | assumption)
local macro_rules | `(tactic| walk_at "g") => `(tactic| first
  | with_reducible refine x_seq ?_
  | with_reducible refine x_next ?_
  | with_reducible refine x_asg ?_
  | with_reducible refine x_ret ?_
  | with_reducible refine x_retN ?_
  | with_reducible refine x_drop ?_
  | with_reducible refine x_ifs ?_
  | ((with_reducible refine' x_var ?hv ?_); (case hv => exact rfl))
  | with_reducible refine x_c ?_
  | with_reducible refine x_op ?_
  | with_reducible refine x_un ?_
  | with_reducible refine x_test ?_
  | with_reducible refine x_B ?_
  | with_reducible refine x_bl ?_
  | with_reducible refine x_and ?_
  | with_reducible refine x_or ?_
  | with_reducible refine x_not ?_
  | with_reducible refine x_andV ?_
  | with_reducible refine x_orV ?_
  | with_reducible refine x_notV ?_
  | with_reducible refine x_ife ?_
  | with_reducible refine x_isN ?_
  | with_reducible refine x_notN ?_
  | with_reducible refine x_nil ?_
  | with_reducible refine x_cons ?_
  | with_reducible refine x_cb ?_
  | with_reducible refine x_call ?_
  | ((with_reducible refine' x_callL ?hv ?_); (case hv => exact rfl))
  | ((with_reducible refine' x_gnameN ?hv ?_); (case hv => (simp only [L2.start, List.map_cons, List.map_nil, List.length_cons, List.length_nil, List.replicate_succ, List.replicate_zero, List.cons_append, List.nil_append, List.set_cons_zero, List.set_cons_succ, Nat.reduceAdd, Nat.reduceSub, Nat.add_one_sub_one]; exact rfl)))
  | with_reducible refine x_gname ?_
  | with_reducible refine x_I0 ?_
  | ((with_reducible refine' x_eq ?hv ?_); (case hv => exact rfl))
  | ((with_reducible refine' x_ne ?hv ?_); (case hv => exact rfl))
  | with_reducible refine x_tupG ?_
  | with_reducible refine x_lstG ?_
  | with_reducible refine x_lc ?_
  | (with_reducible refine x_U ?_)
  | ((with_reducible refine' ite_T ?hv ?_); (case hv => exact rfl))
  | ((with_reducible refine' ite_F ?hv ?_); (case hv => exact rfl))
  | with_reducible refine x_for ?_
  | with_reducible refine x_iEnum ?_
  | with_reducible refine x_iRng1 ?_
  | with_reducible refine x_iList ?_
  | with_reducible refine x_iTup ?_
  | with_reducible refine x_gcons ?_
  | with_reducible refine x_gnil ?_
  | with_reducible refine x_bm ?_
  | with_reducible refine x_fldG ?_
  | with_reducible refine x_meth ?_
  | with_reducible refine x_sl ?_
  | with_reducible refine x_nopart ?_
  | with_reducible refine x_part ?_
  | with_reducible refine x_int ?_
  | with_reducible refine x_yes ?_
  | with_reducible refine x_isNG ?_
  | with_reducible refine x_notNG ?_
  | fail "no step")
local macro_rules | `(tactic| walk_at "g2") => `(tactic| first
  | with_reducible refine x_sfld ?_
  | with_reducible refine x_make ?_
  | with_reducible refine x_dnew ?_
  | with_reducible refine x_lcT ?_
  | with_reducible refine x_lcS ?_
  | with_reducible refine x_disp ?_
  | with_reducible refine x_pcons ?_
  | with_reducible refine x_pnil ?_
  | with_reducible refine x_dnewK ?_
  | with_reducible refine x_dput ?_
  | with_reducible refine x_gsub ?_
  | with_reducible refine x_dget2 ?_
  | with_reducible refine x_litems ?_
  | with_reducible refine x_bmX ?_
  | with_reducible refine x_ckw ?_
  | with_reducible refine L2Z.x_methS ?_
  | with_reducible refine L2Z.x_methN ?_
  | with_reducible refine x_callSD ?_
  | with_reducible refine x_lcZ ?_
  | walk_at "g")
local macro_rules | `(tactic| walk_at "go") => `(tactic| repeat' walk_at "g2")

section
variable {P : Program} {w : World} {K : PySem.W.Frag} {mg : Str → Option Value} {base : Heap}
def sp_law_cell_at (K : PySem.W.Frag) : Sp := fun vs H Q _ => ∃ a ns, vs = [.ref a, .int 0] ∧ SqL K H a (List.map V.int ns) ∧ ∀ n, Q (.int n) H
theorem sc__law_cell_at : FnScope ["_law_script", "_law_k"] ["_law_script", "_law_k"] (defScope s__law_cell_at) := ⟨rfl, rfl, rfl, by decide +kernel, rfl, by decide +kernel, by decide +kernel⟩
theorem ok__law_cell_at (T : TX K mg) : FnOk P w K mg base CX0 1 (f__law_cell_at K) (fdO K (f__law_cell_at K)) ["_law_script", "_law_k"] (sp_law_cell_at K) := by
  refine (F__law_cell_at T).ok sc__law_cell_at (fun vs H Q E h => ?_) (fun cdv A outer s H vs Q E hr h => ?_)
  · obtain ⟨_, _, rfl, _⟩ := h; rfl
  · obtain ⟨a, ns, rfl, hS, k⟩ := h
    refine ⟨_, PSs.nox (pss_cons (ps_if (pt_cmpR op_lt (pv 1) (pe_callB (lenK (K := K) (by rfl)) (by rfl) (z_len T) PySem.boot_len (pa_cons (pv 0) pa_nil)) (nomark _)) (pss_one (ps_ret (pe_ix (ixLK (K := K) (by rfl)) (pv 0) (pv 1) (fun _ _ => rfl)))) pss_nil)
      (pss_one (ps_ret pe_int))), ?_⟩
    walk_at "go"
    refine ⟨a, _, rfl, .inl hS, ?_⟩
    walk_at "go"
    refine ite_b2 (fun c => ?_) (fun c => ?_)
    · walk_at "go"
      have h0 := of_decide_eq_true c
      rw [List.length_map] at h0
      refine ⟨a, _, 0, .int ns[0], rfl, rfl, hS, ?_, k _⟩
      exact atI_nat (j := 0) (by rw [List.getElem?_map, List.getElem?_eq_getElem (by omega)]; rfl)
    · walk_at "go"
      exact k 0
theorem rawZ_keys {G : Hp} : ∀ {kvs : List (Key × V)} {zs : Zs}, HB K G kvs zs → (rawZ zs).map rkey = keysP (zh zs)
  | _, _, .nil => rfl
  | _, _, .cons (b := z) r t => by
    obtain ⟨_, _, _, _, _, _, _, hp⟩ := r
    have ih := rawZ_keys t
    unfold rawZ keysP rawP zh at ih ⊢
    rw [List.flatMap_cons, List.map_append, ih, List.map_cons, List.flatMap_cons, List.map_append]
    congr 1
    unfold partZ
    by_cases c : z.1 = Str.ofString ""
    · rw [if_pos c, if_pos c]; rfl
    · rw [if_neg c, if_neg c, List.map_map, List.map_map]
      have hl : z.2.1.length ≤ z.2.2.length := Nat.le_of_eq (paired_len hp).symm
      have e1 : (z.2.1.zip z.2.2).map (rkey ∘ fun q => (q.1, z.1, q.2)) = ((z.2.1.zip z.2.2).map Prod.fst).map fun b : Blk => (b.t, b.l) := by
        rw [List.map_map]; rfl
      rw [e1, List.map_fst_zip hl]
      rfl
theorem sorted_same {α : Type} {key : α → Int × Int} {zs ys ws : List α} (h1 : ys.Perm zs) (h2 : ws.Perm zs) (o1 : ys.Pairwise fun x y => lexLe (key x) (key y)) (o2 : ws.Pairwise fun x y => lexLe (key x) (key y)) (n : (zs.map key).Nodup) : ys = ws := by
  refine List.Perm.eq_of_pairwise (le := fun x y => lexLe (key x) (key y)) (fun a b ha hb l1 l2 => ?_) o1 o2 (h1.trans h2.symm)
  have ka : key a = key b := by
    unfold lexLe at l1 l2
    refine Prod.ext ?_ ?_ <;> omega
  have ia : a ∈ zs := h1.subset ha
  have ib : b ∈ zs := h2.subset hb
  obtain ⟨i, hi, ei⟩ := List.getElem_of_mem ia
  obtain ⟨j, hj, ej⟩ := List.getElem_of_mem ib
  have e : (zs.map key)[i]? = (zs.map key)[j]? := by
    rw [List.getElem?_map, List.getElem?_map, List.getElem?_eq_getElem hi, List.getElem?_eq_getElem hj, ei, ej]
    show some (key a) = some (key b)
    rw [ka]
  have ij : i = j := (List.getElem?_inj (by rw [List.length_map]; exact hi) n).mp e
  subst ij
  rw [← ei, ← ej]
theorem pairedSame {G H : Hp} (e : Ex G H) : ∀ {ws us : List V} {ys : List (Blk × Str × V)}, Paired (IsPrR K G) ws ys → Paired (IsPrR K G) us ys → Paired (SameT K H) ws us
  | _, _, _, .nil, .nil => .nil
  | _, _, _, .cons r1 t1, .cons r2 t2 => by
    refine .cons ?_ (pairedSame e t1 t2)
    obtain ⟨a, rfl, ha, hb⟩ := r1
    obtain ⟨b, rfl, hb2, _⟩ := r2
    obtain ⟨q, dx, hq, _⟩ := hb
    refine ⟨a, b, _, _, rfl, rfl, sqt (e _ _ ha), sqt (e _ _ hb2), .cons ⟨rfl, .inr ⟨q, hq⟩⟩ (.cons ⟨rfl, .inl rfl⟩ .nil)⟩
def sp_law (K : PySem.W.Frag) : Sp := fun vs H Q _ => ∃ (a : Addr) (ns : List Int), vs = [.ref a] ∧ ns.length ≤ 63 ∧ SqL K H a (ns.map V.int) ∧ ∀ H', Q (.bl true) H'
theorem sc_law : FnScope ["_law_script", "_law_cell", "_law_well_here", "_law_sheet", "_law_k", "_law_top", "_law_seen", "_law_long"] ["_law_script"] (defScope s_law) := ⟨rfl, rfl, rfl, by decide +kernel, rfl, by decide +kernel, by decide +kernel⟩
theorem ok_law (T : TX K mg) : FnOk P w K mg base CX0 15 (f_law K) (fdO K (f_law K)) ["_law_script"] (sp_law K) := by
  refine (F_law T).ok sc_law (fun vs H Q E h => ?_) (fun cdv A outer s H vs Q E hr h => ?_)
  · obtain ⟨_, _, rfl, _⟩ := h; rfl
  · obtain ⟨a, ns, rfl, hn, hS, k⟩ := h
    refine ⟨_, PSs.nox (pss_cons (ps_for PassesOwn.never rfl (pi_list (pe_op op_cat (pe_lst (pa_cons (pe_call (ok__law_cell_at T) (hr.mono (by decide)) (by rfl) (g__law_cell_at T) (F__law_cell_at T).kp (b__law_cell_at T) .nil pass0 (pa_cons (pv 0) (pa_cons pe_int pa_nil))) pa_nil)) (pe_slice sl_list (pv 0) (po_some pe_int) (po_some pe_int)))) (pg_name (i := 1) sc_law.nd rfl (by first | exact Or.inl rfl | exact Or.inr rfl)) (pss_cons (ps_set (i := 2) sc_law.nd rfl (by first | exact Or.inl rfl | exact Or.inr rfl) (pe_call (ok__law_well T) (hr.mono (by decide)) (by rfl) (g__law_well T) (F__law_well T).kp (b__law_well T) .nil pass0 (pa_cons (pv 1) pa_nil)))
      (pss_cons (ps_set (i := 3) sc_law.nd rfl (by first | exact Or.inl rfl | exact Or.inr rfl) (pe_make0 (mk_Sheet T) (ok_Sheet___init__ T) (hr.mono (by decide)) (by rfl) (g_Sheet T) (b_Sheet___init__ T) .nil pass0))
      (pss_cons (ps_for PassesOwn.never rfl (pi_range1 (by rfl) (z_range T) (pa_cons (pe_call (ok__law_draw T) (hr.mono (by decide)) (by rfl) (g__law_draw T) (F__law_draw T).kp (b__law_draw T) .nil pass0 (pa_cons (pv 2) (pa_cons pe_int pa_nil))) pa_nil)) (pg_name (i := 4) sc_law.nd rfl (by first | exact Or.inl rfl | exact Or.inr rfl)) (pss_cons (ps_set (i := 5) sc_law.nd rfl (by first | exact Or.inl rfl | exact Or.inr rfl) (pe_op op_add pe_int (pe_call (ok__law_draw T) (hr.mono (by decide)) (by rfl) (g__law_draw T) (F__law_draw T).kp (b__law_draw T) .nil pass0 (pa_cons (pv 2) (pa_cons pe_int pa_nil)))))
      (pss_one (ps_expr (pe_meth (pv 3) (k_Sheet T) (m_Sheet_fill T) (ok_Sheet_fill T) (hr.mono (by decide)) (b_Sheet_fill T) .nil passN (pa_cons (pe_make (mk_Area T) (ok_Area___init__ T) (hr.mono (by decide)) (by rfl) (g_Area T) (b_Area___init___2 T).choose_spec.2 (b_Area___init___2 T).choose_spec.1 pass0 (pa_cons (pe_lst (pa_cons (pe_make (mk_Block T) (ok_Block___init__ T) (hr.mono (by decide)) (by rfl) (g_Block T) (b_Block___init___5 T).choose_spec.2 (b_Block___init___5 T).choose_spec.1 pass0 (pa_cons (pv 5) (pa_cons (pe_op op_add pe_int (pv 4)) (pa_cons (pe_op op_add (pv 5) pe_int) (pa_cons pe_non pa_nil))))) pa_nil)) pa_nil)) (pa_cons (pe_ix (ixLK (K := K) (by rfl)) (pe_lst (pa_cons pe_str (pa_cons pe_str (pa_cons pe_str pa_nil)))) (pv 4) (fun _ _ => rfl)) pa_nil)))))))
      (pss_cons (ps_set (i := 6) sc_law.nd rfl (by first | exact Or.inl rfl | exact Or.inr rfl) (pe_meth0 (pv 3) (k_Sheet T) (m_Sheet_twin T) (ok_Sheet_twin T) (hr.mono (by decide)) (b_Sheet_twin T) .nil pass0))
      (pss_cons (ps_if (PW.pt (pw_or (pt_not (pt_val (pe_call (ok__law_refused_right T) (hr.mono (by decide)) (by rfl) (g__law_refused_right T) (F__law_refused_right T).kp (b__law_refused_right T) .nil pass0 (pa_cons (pv 2) (pa_cons (pv 3) pa_nil))))) (pw_or (pt_cmpR (op_neO (ok_Sheet___eq__ T) (hr.mono (by decide)) (m_Sheet___eq__ T) (b_Sheet___eq__ T) pass0 (ne_Sheet T)) (pv 3) (pv 6) (nomark _)) (pw_or1 (pt_cmpR (neTK (K := K) (Nat.lt_of_le_of_lt (Nat.add_le_add_left (by decide : 2 ≤ 65) _) (lt65 hr)) (by rfl)) (pe_meth0 (pv 3) (k_Sheet T) (m_Sheet_pairs T) (ok_Sheet_pairs T) (hr.mono (by decide)) (b_Sheet_pairs T) .nil pass0) (pe_meth0 (pv 6) (k_Sheet T) (m_Sheet_pairs T) (ok_Sheet_pairs T) (hr.mono (by decide)) (b_Sheet_pairs T) .nil pass0) (nomark _)))))) (pss_one (ps_ret pe_bl)) pss_nil)
      (pss_cons (ps_set (i := 7) sc_law.nd rfl (by first | exact Or.inl rfl | exact Or.inr rfl) pe_str)
      (pss_cons (ps_if (PW.pt (pw_or (pt_cmpR (op_neD hr.units) (pe_call (ok__law_said T) (hr.mono (by decide)) (by rfl) (g__law_said T) (F__law_said T).kp (b__law_said T) .nil pass0 (pa_cons pe_int (pa_cons (pv 3) (pa_cons (pe_make (mk_Area T) (ok_Area___init__ T) (hr.mono (by decide)) (by rfl) (g_Area T) (b_Area___init___2 T).choose_spec.2 (b_Area___init___2 T).choose_spec.1 pass0 (pa_cons (pe_lst (pa_cons (pe_make0 (mk_Block T) (ok_Block___init__ T) (hr.mono (by decide)) (by rfl) (g_Block T) (b_Block___init___1 T).choose_spec.2 (b_Block___init___1 T).choose_spec.1 pass0) pa_nil)) pa_nil)) (pa_cons (pv 7) pa_nil))))) (pe_lst (pa_cons pe_str pa_nil)) (nomark _)) (pw_or1 (pt_cmpR (op_neD hr.units) (pe_meth0 (pv 3) (k_Sheet T) (m_Sheet_told T) (ok_Sheet_told T) (hr.mono (by decide)) (b_Sheet_told T) .nil pass0) (pe_lst (pa_cons (pv 7) pa_nil)) (nomark _))))) (pss_one (ps_ret pe_bl)) pss_nil)
      (pss_one (ps_if (PW.pt (pw_or (pt_cmpR (op_neD hr.units) (pe_call (ok__law_said T) (hr.mono (by decide)) (by rfl) (g__law_said T) (F__law_said T).kp (b__law_said T) .nil pass0 (pa_cons pe_int (pa_cons (pv 3) (pa_cons (pv 3) (pa_cons pe_int pa_nil))))) (pe_lst (pa_cons pe_str pa_nil)) (nomark _)) (pw_or1 (pt_cmpR op_ne (pe_meth (pv 3) (k_Sheet T) (m_Sheet_value T) (ok_Sheet_value T) (hr.mono (by decide)) (b_Sheet_value T) .nil passN (pa_cons (pe_tup (pa_cons (pe_op op_sub (pe_op op_pow pe_int pe_int) pe_int) (pa_cons (pe_op op_sub (pe_op op_pow pe_int pe_int) pe_int) pa_nil))) pa_nil)) (pv 7) (nomark _))))) (pss_one (ps_ret pe_bl)) pss_nil))))))))))
      (pss_one (ps_ret pe_bl))), ?_⟩
    walk_at "go"
    refine ⟨a, ns, rfl, hS, fun n0 => ?_⟩
    walk_at "go"
    refine lstI (Ex.refl H) (by show 1 ≤ 1000; decide) fun l1 G1 H1 s1 g1 => ?_
    walk_at "go"
    obtain ⟨ms, hm, em⟩ := cutV_map ns (some 1) (some 10)
    refine ⟨a, _, rfl, sqMono (s1.g.trans s1.i) hS, fun l2 hl2 => ?_⟩
    rw [em]
    refine al (Q := fun H' => rCat (.ref l1) (.ref l2) H' _) hl2 s1.i fun G2 H2 s2 g2 => ?_
    refine catL (R := IsI) IsI.mono (xs := [n0]) (ys := ms) ⟨l1, _, rfl, s2.g _ _ g1, .cons rfl .nil⟩ ⟨l2, _, rfl, g2, ints_paired _⟩ s2.i (Nat.le_trans (show 1 + ms.length ≤ 1000 by omega) (by decide)) fun l3 G3 H3 s3 h3 => ?_
    have a3 := (s1.trans s2).trans s3
    refine forG (K := K) (R := IsI) IsI.mono h3 s3.i (fun i σ' G' H' => ∃ o1 o2 o3 o4 o5 o6 o7, σ' = [some (.ref a), o1, o2, o3, o4, o5, o6, o7] ∧ St G3 H3 G' H')
      ⟨none, none, none, none, none, none, none, rfl, Stm.refl s3.i⟩ (fun i σ' G' H' _ ⟨_, _, _, _, _, _, _, _, s⟩ => ⟨s.g, s.i⟩) ?_ ?_
    · rintro j x wv σ1 G4 H4 hj ⟨o1, o2, o3, o4, o5, o6, o7, rfl, sL⟩ hw
      cases hw
      walk_at "go"
      refine ⟨G4, x, rfl, sL.i, fun H5 p hp s5 m5 => ?_⟩
      walk_at "go"
      refine makeG s5.i fun ps dx H6 hps hdx hn6 s6 m6 => ⟨G4, ps, dx, rfl, s6.i, m6, fun G7 H7 d7 kvs7 s7 ms7 hD7 hd7 => ⟨rfl, ?_⟩⟩
      have hpps : p ≠ ps := fun q => by
        obtain ⟨_, _, m, _⟩ := m5
        have h1 := m.1
        rw [q, hps] at h1; cases h1
      have hps4 : H4 ps = none := s5.none hps fun z => nomatch z
      have b7 : Stm [p, ps] G4 H4 G7 H7 := (St.up (s5.trans s6)).trans (s7.sub (by simp))
      have mw7 : MuW G7 H7 p 0 := by
        obtain ⟨a, b, m, b0, b1⟩ := MuW.st m5 s6
        exact ⟨a, b, s7.m _ _ (by simpa using hpps) m, b0, b1⟩
      clear s6 s7 m6 m5
      walk_at "go"
      refine drawG b7.i mw7 (by decide) (by decide) (by decide) (by decide) fun H8 n8 c8 n80 n81 c80 c81 s8 m8 => ?_
      obtain ⟨nn, rfl⟩ := Int.eq_ofNat_of_zero_le n80
      refine ⟨(nn : Nat), rfl, by omega, by omega, ?_⟩
      have hnn : nn ≤ 3 := by omega
      have et : (Int.toNat (nn : Int)) = nn := rfl
      rw [et]
      have hdp : d7 ≠ p := fun q => by
        obtain ⟨_, _, m, _⟩ := m8
        have h1 := (ms7.d).1
        obtain ⟨_, _, m', _⟩ := mw7
        rw [q, m'.1] at h1; cases h1
      refine rangeG (G := G7) (fun i σ' G' H' => ∃ hs d kvs c o4 o5, σ' = [some (.ref a), some (.int x), some (.ref p), some (.ref ps), o4, o5, o6, o7] ∧ Stm [p, ps] G4 H4 G' H' ∧ MuW G' H' p c ∧ 0 ≤ c ∧ c ≤ 1 + (i : Nat) ∧ MuS K G' H' ps d kvs ∧ HD K G' kvs hs ∧ kn hs ∧ stepsOk (3 - i) i hs = true)
        ⟨_, d7, kvs7, c8, _, _, rfl, b7.trans (s8.sub (by simp)), m8, by omega, by simpa using c81, ms7.to s8 (by simpa using hpps.symm) (by simpa using hdp), hD7.mono s8.g, List.nodup_cons.mpr ⟨by simp, List.nodup_nil⟩, steps0⟩ ?_ ?_
      · rintro i σ1 G9 H9 hi ⟨hs, d, kvs, c, o4', o5', rfl, b9, m9, c90, c91, ms9, hD9, hk9, ok9⟩
        have h3i : 3 - i = (2 - i) + 1 := by omega
        rw [h3i] at ok9
        rw [show (0 : Int) + (i : Nat) = (i : Nat) from Int.zero_add _]
        have hdp9 : d ≠ p := fun q => by
          have h1 := (ms9.d).1
          obtain ⟨_, _, m', _⟩ := m9
          rw [q, m'.1] at h1; cases h1
        walk_at "go"
        refine drawG b9.i m9 (by omega) (by omega) (by decide) (by decide) fun H10 t c10 t0 t5 c100 c101 s10 m10 => ?_
        have ms10 := ms9.to s10 (by simpa using hpps.symm) (by simpa using hdp9)
        have b10 : Stm [p, ps] G4 H4 G9 H10 := b9.trans (s10.sub (by simp))
        obtain ⟨k1, k2, k3, k4⟩ := stepsOk.next ok9 (t := 1 + t) (by omega) (by omega)
        walk_at "go"
        refine mS ms10 (by decide +kernel) ?_
        walk_at "go"
        refine mkBlk (K := K) (b := lblk i (1 + t)) rfl k1 s10.i fun pb G11 H11 s11 hb => ?_
        walk_at "go"
        refine lstI s11.i (by show 1 ≤ 1000; decide) fun lb G12 H12 s12 g12 => ?_
        walk_at "go"
        refine mkArea (K := K) (v := .ref lb) (xs := [lblk i (1 + t)]) rfl (.inr ⟨lb, _, rfl, g12, .cons (IsBlk.mono _ _ _ _ s12.g hb) .nil⟩) k2 s12.i fun pa G13 H13 s13 ha => ?_
        walk_at "go"
        refine lstI s13.i (by show 3 ≤ 1000; decide) fun lv G14 H14 s14 g14 => ?_
        walk_at "go"
        have ei : atI [V.str "a", V.str "b", V.str " "] (i : Nat) = some (.str (lval i)) := by
          have : i = 0 ∨ i = 1 ∨ i = 2 := by omega
          rcases this with rfl | rfl | rfl <;> rfl
        have ev : okV (lval i) = true ∧ (lval i).cps.size ≤ 1000 := by
          have : i = 0 ∨ i = 1 ∨ i = 2 := by omega
          rcases this with rfl | rfl | rfl <;> decide +kernel
        refine ixW (s14.i _ _ g14) ei ?_
        walk_at "go"
        have sx := ((s11.trans s12).trans s13).trans s14
        refine ⟨G14, ps, d, kvs, hs, .ref pa, .str (lval i), some (norm [lblk i (1 + t)]), true, rfl, s14.i, MuS.st ms10 sx, hD9.mono (s10.g.trans sx.g), hk9, .inr ⟨_, rfl, IsAr.mono _ _ _ _ s14.g ha⟩, .inr ⟨_, rfl, ev.2, ev.1.symm⟩, (fun z => nomatch z), (fun _ _ z => nomatch z), fun a' z' ha' hz' _ => ?_⟩
        cases ha'
        cases hz'
        refine ⟨k3, fun G15 H15 d15 kvs15 s15 ms15 hD15 hd15 => ?_⟩
        walk_at "go"
        refine ⟨G15, _, d15, kvs15, c10, _, _, rfl, (b10.trans (St.up sx)).trans (s15.sub (by simp)), ?_, by omega, by omega, ms15, hD15, fillH_kn hk9, ?_⟩
        · obtain ⟨a1, b1, m, x0, x1⟩ := MuW.st m10 sx
          exact ⟨a1, b1, s15.m _ _ (by simpa using hpps) m, x0, x1⟩
        · rw [show 3 - (i + 1) = 2 - i by omega]
          exact k4
      · rintro σ' G9 H9 ⟨hs, d, kvs, c, o4', o5', rfl, b9, m9, c90, c91, ms9, hD9, hk9, ok9⟩
        have hf := stepsOk.fin ok9
        unfold finOk at hf
        rw [Bool.and_eq_true, Bool.and_eq_true, Bool.and_eq_true, Bool.and_eq_true, Bool.and_eq_true] at hf
        obtain ⟨f1, f2, f3, f4, f5, f6⟩ := hf
        have f2 := of_decide_eq_true f2
        have f3 := of_decide_eq_true f3
        have f6 := of_decide_eq_true f6
        have hdp9 : d ≠ p := fun q => by
          have h1 := (ms9.d).1
          obtain ⟨_, _, m', _⟩ := m9
          rw [q, m'.1] at h1; cases h1
        walk_at "go"
        refine mS ms9 (by decide +kernel) ?_
        walk_at "go"
        refine ⟨G9, ps, d, kvs, hs, rfl, b9.i, ms9, hD9, hk9, f3, f4, f5, fun G10 H10 pt dt s10 mt10 hpt hdt => ?_⟩
        have ms10 := MuS.st ms9 s10
        have b10 := b9.trans (St.up s10)
        walk_at "go"
        have hptp : pt ≠ p := fun q => by
          obtain ⟨_, _, m', _⟩ := m9
          have h1 := m'.1
          rw [← q, hpt] at h1; cases h1
        have hdtp : dt ≠ p := fun q => by
          obtain ⟨_, _, m', _⟩ := m9
          have h1 := m'.1
          rw [← q, hdt] at h1; cases h1
        refine ⟨G10, p, c, ps, d, kvs, hs, rfl, s10.i, MuW.st m9 s10, c90, by omega, ms10, hD9.mono s10.g, hk9, f3, f4, fun G11 H11 c11 c110 c111 s11 m11 => ?_⟩
        have ms11 := ms10.to s11 (by simpa using hpps.symm) (by simpa using hdp9)
        have mt11 := mt10.to s11 (by simpa using hptp) (by simpa using hdtp)
        have b11 : Stm [p, ps] G4 H4 G11 H11 := b10.trans (s11.sub (by simp))
        have hD11 := hD9.mono (s10.g.trans s11.g)
        walk_at "go"
        obtain ⟨dxs, mos⟩ := ms11.o
        obtain ⟨dxt, mot⟩ := mt11.o
        refine ⟨ps, pt, dxs, dxt, _, _, rfl, rfl, mos.1, mot.1, G11, ps, d, pt, dt, kvs, hs, rfl, s11.i, ms11, mt11, hD11, hk9, true, rfl, ?_⟩
        walk_at "go"
        obtain ⟨zs, hB, ez⟩ := HD.hb hD11
        have hzl : zs.length ≤ 100 := by
          have : (zh zs).length = zs.length := by unfold zh; rw [List.length_map]
          rw [ez] at this; omega
        have hzs : szH (zh zs) = true := by rw [ez]; exact f4
        have hnd : ((rawZ zs).map rkey).Nodup := by rw [rawZ_keys hB, ez]; exact f6
        refine mS ms11 (by decide +kernel) ?_
        walk_at "go"
        refine ⟨G11, ps, d, kvs, zs, rfl, s11.i, ms11, hB, hzl, hzs, fun G12 H12 r12 ys12 s12 p12 o12 hL12 => ?_⟩
        walk_at "go"
        refine mS (MuS.st mt11 s12) (by decide +kernel) ?_
        walk_at "go"
        refine ⟨G12, pt, dt, kvs, zs, rfl, s12.i, MuS.st mt11 s12, hB.mono s12.g, hzl, hzs, fun G13 H13 r13 ys13 s13 p13 o13 hL13 => ?_⟩
        have eys := sorted_same p12 p13 o12 o13 hnd
        subst eys
        obtain ⟨q12, w12, rfl, g12, pr12⟩ := hL12
        obtain ⟨q13, w13, rfl, g13, pr13⟩ := hL13
        refine ⟨q12, q13, w12, w13, rfl, rfl, sq (s13.i _ _ (s13.g _ _ g12)), sq (s13.i _ _ g13), pairedSame s13.i (paired_imp (fun a b q => IsPrR.mono _ _ a b s13.g q) pr12) pr13, ?_⟩
        have ms13 := MuS.st (MuS.st ms11 s12) s13
        have hD13 := hD11.mono (s12.g.trans s13.g)
        have b13 : Stm [p, ps] G4 H4 G13 H13 := b11.trans (St.up (s12.trans s13))
        clear pr12 pr13 g12 g13 hB
        walk_at "go"
        refine mkBlk (K := K) (b := ⟨1, 1, none, none⟩) rfl (by decide) s13.i fun pb G14 H14 s14 hb => ?_
        walk_at "go"
        refine lstI s14.i (by show 1 ≤ 1000; decide) fun lb G15 H15 s15 g15 => ?_
        walk_at "go"
        refine mkArea (K := K) (v := .ref lb) (xs := all1) rfl (.inr ⟨lb, _, rfl, g15, .cons (IsBlk.mono _ _ _ _ s15.g hb) .nil⟩) okN_all s15.i fun pa G16 H16 s16 ha => ?_
        rw [norm_all] at ha
        walk_at "go"
        have s1416 := (s14.trans s15).trans s16
        refine ⟨G16, 0, ps, d, kvs, hs, .ref pa, .str llong, rfl, s16.i, MuS.st ms13 s1416, hD13.mono s1416.g, hk9, .inl ⟨rfl, some all1, true, .inr ⟨_, rfl, ha⟩, .inr ⟨_, rfl, by decide +kernel, by decide +kernel⟩, (fun z => nomatch z), (fun _ _ z => nomatch z), fun a' z' ha' hz' _ => ?_⟩⟩
        cases ha'
        cases hz'
        refine ⟨f1, fun G17 H17 d17 kvs17 r17 s17 ms17 hD17 hd17 hr17 => ?_⟩
        rw [f2] at hD17
        have b17 : Stm [p, ps] G4 H4 G17 H17 := (b13.trans (St.up s1416)).trans (s17.sub (by simp))
        walk_at "go"
        refine lstI s17.i (by show 1 ≤ 1000; decide) fun l18 G18 H18 s18 g18 => ?_
        walk_at "go"
        refine neWord (by decide +kernel) (IsL.mono IsS.mono _ _ _ _ s18.g hr17) s18.i (s18.i _ _ g18) ?_
        walk_at "go"
        have ms18 := MuS.st ms17 s18
        have hD18 := hD17.mono s18.g
        refine mS ms18 (by decide +kernel) ?_
        walk_at "go"
        refine ⟨G18, ps, d17, kvs17, last0, rfl, s18.i, ms18, hD18, by decide, fun G19 H19 r19 ys s19 hp19 _ hL19 => ?_⟩
        have ey : ys = [llong] := List.perm_singleton.mp hp19
        subst ey
        walk_at "go"
        refine lstI s19.i (by show 1 ≤ 1000; decide) fun l20 G20 H20 s20 g20 => ?_
        walk_at "go"
        refine neWord (by decide +kernel) (IsL.mono IsS.mono _ _ _ _ s20.g hL19) s20.i (s20.i _ _ g20) ?_
        have ms20 := MuS.st (MuS.st ms18 s19) s20
        have hD20 := hD18.mono (s19.g.trans s20.g)
        have b20 : Stm [p, ps] G4 H4 G20 H20 := b17.trans (St.up ((s18.trans s19).trans s20))
        walk_at "go"
        refine ⟨G20, 4, ps, d17, kvs17, last0, .ref ps, .int 0, rfl, s20.i, ms20, hD20, List.nodup_cons.mpr ⟨by simp, List.nodup_nil⟩, .inr (.inr (.inr (.inr (.inl ⟨rfl, Knd.int, .inr (.inr ⟨ps, d17, kvs17, last0, 0, rfl, rfl, ms20, hD20, laid_last, fun G21 H21 d21 kvs21 r21 s21 ms21 hD21 hr21 => ?_⟩)⟩))))⟩
        have b21 : Stm [p, ps] G4 H4 G21 H21 := b20.trans (s21.sub (by simp))
        walk_at "go"
        refine lstI s21.i (by show 1 ≤ 1000; decide) fun l22 G22 H22 s22 g22 => ?_
        walk_at "go"
        refine neWord (by decide +kernel) (IsL.mono IsS.mono _ _ _ _ s22.g hr21) s22.i (s22.i _ _ g22) ?_
        walk_at "go"
        have ms22 := MuS.st ms21 s22
        refine mS ms22 (by decide +kernel) ?_
        walk_at "go"
        refine x_I ⟨by decide, by decide, by decide⟩ ?_
        walk_at "go"
        refine x_I ⟨by decide, by decide, by decide⟩ ?_
        walk_at "go"
        refine tupI s22.i (by show 2 ≤ 1000; decide) fun t23 G23 H23 s23 g23 => ?_
        walk_at "go"
        refine ⟨G23, ps, d21, kvs21, _, .ref t23, true, rfl, s23.i, MuS.st ms22 s23, hD21.mono (s22.g.trans s23.g), sizes_last.1, sizes_last.2, .inr ⟨t23, _, rfl, g23, ?_, by decide, rfl⟩, (fun z => nomatch z), fun _ => ⟨t23, _, _, llong, rfl, g23, by decide, by decide, value_last, fun G24 H24 s24 => ?_⟩⟩
        · intro y hy
          simp only [List.mem_cons, List.not_mem_nil, or_false] at hy
          rcases hy with rfl | rfl <;> exact Kd.int
        walk_at "go"
        refine ⟨_, _, _, _, _, _, _, _, rfl, sL.trans (Stm.fresh (Stm.refl sL.i) ((b21.trans (St.up ((s22.trans s23).trans s24)))) fun q hq => ?_)⟩
        simp only [List.mem_cons, List.not_mem_nil, or_false] at hq
        rcases hq with rfl | rfl
        · exact hp
        · exact hps4
    · rintro σ' G1 H1 ⟨o1, o2, o3, o4, o5, o6, o7, rfl, sL⟩
      walk_at "go"
      exact k _
end
end GT

/-! ## K62End -/
set_option Elab.async false
set_option linter.all false
set_option maxRecDepth 100000
set_option maxHeartbeats 0
open PySem PySem.W PySem.Calls PyProof.Rows
theorem PySem.Challenge.cw_cellblocks_k62_what_sheets_refuse_holds : PySem.Challenge.rw_cellblocks_k62_what_sheets_refuse.Holds := by
  w_on; o_law
  refine HandSHeadRun.head_any (r := OpenLaw.row PySem.Challenge.rw_cellblocks_k62_what_sheets_refuse) (q := view (OpenLaw.row PySem.Challenge.rw_cellblocks_k62_what_sheets_refuse).prog [67]) (H := GT.hook) (ob := GT.ob) (M := 6000) (loose := GT.names) (d := HandSHeadRun.topDef (OpenLaw.row PySem.Challenge.rw_cellblocks_k62_what_sheets_refuse).prog 67) (kwd := []) GT.ob_eq
    (by kernel_rfl) (fun s => by kernel_rfl) GT.run (by kernel_rfl) (by kernel_rfl) (by kernel_rfl) (by rfl) (by first | assumption | decide +kernel) (by decide +kernel) ⟨rfl, rfl, rfl, rfl, rfl, by decide +kernel⟩ ?hw ?hc
  case hw => w_witness2
  case hc =>
    refine L2.walk_ofE (l := PySem.Challenge.rw_cellblocks_k62_what_sheets_refuse) (n := 63) (k := 15) (x := "_law_script") (CX := L2.CX0) rfl (by decide) (by kernel_rfl) ⟨rfl, by decide, by decide⟩ ?F (fun _ _ _ _ z => z)
    intro w mg fa h Y G hmg0
    obtain ⟨K, KX, c⟩ := Y
    have hmg : mg ("law" : PySem.Str) = some (.ref fa) := by
      have e : (HandSHeadRun.topDef (OpenLaw.row PySem.Challenge.rw_cellblocks_k62_what_sheets_refuse).prog 67).name = ("law" : PySem.Str) := by kernel_rfl
      rw [← e]
      exact hmg0
    have T : GT.TX K mg := ⟨⟨h, KX, G⟩, c⟩
    have e := hmg.symm.trans (GT.g_law T)
    cases e
    refine ⟨K, GT.fdO K (GT.f_law K), GT.sp_law K, KX, fun s v => (GT.F_law T).bindsA (ps := ["_law_script"]) (fun _ _ _ _ _ _ us hl => match us, hl with | [_], _ => rfl) s [v] rfl, fun H a ns hl _ hS => ⟨a, ns, rfl, hl, hS, fun _ => rfl⟩, fun base _ _ => GT.ok_law T⟩

