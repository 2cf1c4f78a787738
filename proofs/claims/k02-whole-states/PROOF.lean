import PyProof.Rows.All
import Wide.All
import OpenK.AllK
import Wide.FinOn
import HandS.ForMost
import HandS.ForExc
import HandS.Star
import HandS.Conv
import HandS.Strs
import HandS.SetFor
import HandS.SetTxt0
import HandS.Zip
import HandS.TupMul
import HandS.TupAny
import HandS.Wide
import HandS.Flow
import HandS.IsInst
import HandS.Property
import HandS.Defaults
import HandS.ExcField
import HandS.ExcIs
import HandS.ExcInit
import HandS.ExcSuper
import HandS.Walk
import PySem.Challenge.RW_editionlag_k02_whole_states
import KE.GoesEnum
import KE.GoesZip
import KE.GoesMore
import KE.KExcSuper
import HandS.Style
set_option Elab.async false
set_option linter.all false
set_option maxRecDepth 100000
set_option maxHeartbeats 4000000
namespace EL
open PySem L2
/-! ### the text by places -/
def top (i : Nat) : Stmt := PySem.Challenge.pw_editionlag_k02_whole_states.main.body.getD i (.Pass ⟨0, 0, 0, 0⟩)

/-! ### the heap between two moments: what never changes stays -/
def imm : HO → Prop
  | .tup _ => True
  | .ins _ _ _ => True
  | .own _ => True
  | .frz _ _ => True
  | _ => False
def Keep (H H' : Hp) : Prop := ∀ b o, H b = some o → imm o → H' b = some o
theorem Keep.refl (H : Hp) : Keep H H := fun _ _ e _ => e
theorem Keep.trans {H H1 H2 : Hp} (a : Keep H H1) (b : Keep H1 H2) : Keep H H2 := fun c o e i => b c o (a c o e i) i
theorem Keep.of {H H' : Hp} (s : Same H H') : Keep H H' := fun b o e _ => s b o e
theorem _root_.L2.Same.new {H : Hp} {p : Addr} {o : HO} (h : H p = none) : Same H (upd H p o) := fun b u e => by
  rw [upd_ne (ne_of_none e h)]; exact e
theorem _root_.L2.Same.own {H H1 : Hp} {p : Addr} {o : HO} (s : Same H H1) (h : H p = none) : Same H (upd H1 p o) := fun b u e => by
  rw [upd_ne (ne_of_none e h)]; exact s b u e
theorem Keep.new {H : Hp} {p : Addr} {o : HO} (h : H p = none) : Keep H (upd H p o) := Keep.of (Same.new h)
theorem Keep.lst {H : Hp} {p : Addr} {o : HO} {xs : List V} (h : H p = some (.lst xs)) : Keep H (upd H p o) := fun b u e i => by
  rw [upd_ne]
  · exact e
  · rintro rfl
    rw [h] at e; cases e; exact i
theorem Keep.dK {H : Hp} {p : Addr} {o : HO} {xs : List (Key × V)} (h : H p = some (.dK xs)) : Keep H (upd H p o) := fun b u e i => by
  rw [upd_ne]
  · exact e
  · rintro rfl
    rw [h] at e; cases e; exact i
theorem _root_.L2.Same.at {H H1 : Hp} (s : Same H H1) {p : Addr} {o : HO} (h : H p = some o) : H1 p = some o := s _ _ h
theorem _root_.L2.Same.ne {H H1 : Hp} {a p : Addr} {o : HO} (s : Same H H1) (h : H a = some o) (n : H1 p = none) : a ≠ p := ne_of_none (s _ _ h) n

theorem ifT {c : Bool} {A B : Prop} (h : c = true) (a : A) : if c = true then A else B := by rw [if_pos h]; exact a
theorem ifF {c : Bool} {A B : Prop} (h : c = false) (b : B) : if c = true then A else B := by rw [if_neg (by rw [h]; decide)]; exact b
theorem ifC {c : Bool} {A B : Prop} (a : c = true → A) (b : c = false → B) : if c = true then A else B := by
  cases c with
  | true => rw [if_pos rfl]; exact a rfl
  | false => rw [if_neg (by decide)]; exact b rfl
theorem yes {σ : L2.St} {H : Hp} {Q : Bool → Hp → Prop} (h : Q true H) : tYes σ H Q := h
/-- a cut between two statements: what holds there -/
theorem seq_cut {t u : TS} {D : Ends} {σ : L2.St} {H : Hp} (M : L2.St → Hp → Prop) (h1 : ∀ R : L2.St → Hp → Prop, (∀ σ' H', M σ' H' → R σ' H') → t { D with nx := R } σ H)
    (h2 : ∀ σ' H', M σ' H' → u D σ' H') : tSeq t u D σ H := h1 _ h2
/-! ### the data -/
inductive Stp where
  | ed (e : List Str)
  | fill (i : Nat)
  | sweep (i : Nat)
structure Sch where
  width : Nat
  first : List Str
  steps : List Stp
def Stp.ed? : Stp → Option (List Str)
  | .ed e => some e
  | _ => none
def Stp.isEd : Stp → Bool
  | .ed _ => true
  | _ => false
def Stp.kind : Stp → Str
  | .ed _ => "edition"
  | .fill _ => "fill"
  | .sweep _ => "sweep"
def Sch.every (S : Sch) : List (List Str) := S.first :: S.steps.filterMap Stp.ed?
structure Sta where
  begun : Nat
  due : Bool
  row : Option Int
  ents : List (List Int)
inductive Deed where
  | begin
  | visit
  | cut (n : Nat)
  | put (n : Nat) (v : Int)
  deriving DecidableEq
def rowV : Option Int → V
  | none => .non
  | some i => .int i
def Deed.vals : Deed → List V
  | .begin => [.str "begin"]
  | .visit => [.str "visit"]
  | .cut n => [.str "cut", .int n]
  | .put n v => [.str "put", .int n, .int v]

/-! ### how it stands in the heap -/
def IntsT (H : Hp) (v : V) (ns : List Int) : Prop := ∃ a, v = .ref a ∧ H a = some (.tup (ns.map V.int))
def WordsT (H : Hp) (v : V) (ws : List Str) : Prop := ∃ a, v = .ref a ∧ H a = some (.tup (ws.map V.str))
def TupOf {α : Type} (R : Hp → V → α → Prop) (H : Hp) (v : V) (as : List α) : Prop := ∃ a xs, v = .ref a ∧ H a = some (.tup xs) ∧ Paired (R H) xs as
def LstOf {α : Type} (R : Hp → V → α → Prop) (H : Hp) (v : V) (as : List α) : Prop := ∃ a xs, v = .ref a ∧ H a = some (.lst xs) ∧ Paired (R H) xs as
abbrev EntsT := TupOf IntsT
abbrev EdsT := TupOf WordsT
def StpT (H : Hp) (v : V) : Stp → Prop
  | .ed e => ∃ a x, v = .ref a ∧ H a = some (.tup [.str "edition", x]) ∧ WordsT H x e
  | .fill i => ∃ a, v = .ref a ∧ H a = some (.tup [.str "fill", .int i])
  | .sweep i => ∃ a, v = .ref a ∧ H a = some (.tup [.str "sweep", .int i])
abbrev StpsT := TupOf StpT
def StaT (H : Hp) (v : V) (s : Sta) : Prop := ∃ a x, v = .ref a ∧ H a = some (.tup [.int s.begun, .bl s.due, rowV s.row, x]) ∧ EntsT H x s.ents
def DeedT (H : Hp) (v : V) (d : Deed) : Prop := ∃ a, v = .ref a ∧ H a = some (.tup d.vals)
def RowT (H : Hp) (v : V) (r : Deed × Sta) : Prop := ∃ a x y, v = .ref a ∧ H a = some (.tup [x, y]) ∧ DeedT H x r.1 ∧ StaT H y r.2
/-- the instance of Schedule -/
def fsS (r e : V) : List (Str × V) := [("row", r), ("every", e)]
def SchT (C : Addr) (H : Hp) (v : V) (S : Sch) : Prop := ∃ a dx r x y e, v = .ref a ∧ H a = some (.ins C dx (fsS (.ref r) e)) ∧
  H r = some (.tup [.int S.width, x, y]) ∧ WordsT H x S.first ∧ StpsT H y S.steps ∧ EdsT H e S.every

/-! ### all of it stays -/
def KT (H H' : Hp) : Prop := ∀ b xs, H b = some (.tup xs) → H' b = some (.tup xs)
theorem Keep.t {H H' : Hp} (k : Keep H H') : KT H H' := fun b xs e => k b _ e trivial
theorem KT.trans {H H1 H2 : Hp} (a : KT H H1) (b : KT H1 H2) : KT H H2 := fun c xs e => b c xs (a c xs e)
theorem KT.ins {H : Hp} {p : Addr} {C dx : Addr} {fs : List (Str × V)} {o : HO} (h : H p = some (.ins C dx fs)) : KT H (upd H p o) := fun b u e => by
  rw [upd_ne]
  · exact e
  · rintro rfl
    rw [h] at e; cases e
structure Mono {α : Type} (R : Hp → V → α → Prop) : Prop where
  gt : ∀ {H H' : Hp} {v : V} {a : α}, KT H H' → R H v a → R H' v a
theorem Mono.go {α : Type} {R : Hp → V → α → Prop} (m : Mono R) {H H' : Hp} {v : V} {a : α} (k : Keep H H') (h : R H v a) : R H' v a := m.gt k.t h
theorem mono_ints : Mono IntsT := ⟨fun k ⟨a, e, h⟩ => ⟨a, e, k _ _ h⟩⟩
theorem mono_words : Mono WordsT := ⟨fun k ⟨a, e, h⟩ => ⟨a, e, k _ _ h⟩⟩
theorem mono_pairedT {α : Type} {R : Hp → V → α → Prop} (m : Mono R) {H H' : Hp} (k : KT H H') : ∀ {xs : List V} {as : List α}, Paired (R H) xs as → Paired (R H') xs as
  | _, _, .nil => .nil
  | _, _, .cons r t => .cons (m.gt k r) (mono_pairedT m k t)
theorem mono_paired {α : Type} {R : Hp → V → α → Prop} (m : Mono R) {H H' : Hp} (k : Keep H H') {xs : List V} {as : List α} (h : Paired (R H) xs as) : Paired (R H') xs as := mono_pairedT m k.t h
theorem mono_tup {α : Type} {R : Hp → V → α → Prop} (m : Mono R) : Mono (TupOf R) := ⟨fun k ⟨a, xs, e, h, p⟩ => ⟨a, xs, e, k _ _ h, mono_pairedT m k p⟩⟩
theorem mono_ents : Mono EntsT := mono_tup mono_ints
theorem mono_eds : Mono EdsT := mono_tup mono_words
theorem mono_stp : Mono StpT := ⟨fun {H H' v a} k h => by
  cases a with
  | ed e => obtain ⟨a, x, e, h, w⟩ := h; exact ⟨a, x, e, k _ _ h, mono_words.gt k w⟩
  | fill i => obtain ⟨a, e, h⟩ := h; exact ⟨a, e, k _ _ h⟩
  | sweep i => obtain ⟨a, e, h⟩ := h; exact ⟨a, e, k _ _ h⟩⟩
theorem mono_stps : Mono StpsT := mono_tup mono_stp
theorem mono_sta : Mono StaT := ⟨fun k ⟨a, x, e, h, w⟩ => ⟨a, x, e, k _ _ h, mono_ents.gt k w⟩⟩
theorem mono_deed : Mono DeedT := ⟨fun k ⟨a, e, h⟩ => ⟨a, e, k _ _ h⟩⟩
theorem mono_row : Mono RowT := ⟨fun k ⟨a, x, y, e, h, d, s⟩ => ⟨a, x, y, e, k _ _ h, mono_deed.gt k d, mono_sta.gt k s⟩⟩
theorem sch_keep {C : Addr} {H H' : Hp} {v : V} {S : Sch} (k : Keep H H') : SchT C H v S → SchT C H' v S := fun ⟨a, dx, r, x, y, e, h0, h1, h2, w, s, d⟩ =>
  ⟨a, dx, r, x, y, e, h0, k _ _ h1 trivial, k _ _ h2 trivial, mono_words.go k w, mono_stps.go k s, mono_eds.go k d⟩

end EL
namespace PySem
open L2
/-! ### lists of pairs -/
theorem Paired.e_at {α β : Type} {F : α → β → Prop} {xs : List α} {ys : List β} (h : Paired F xs ys) {i : Nat} {x : α} (e : xs[i]? = some x) : ∃ y, ys[i]? = some y ∧ F x y := paired_get h e
theorem Paired.e_snoc {α β : Type} {F : α → β → Prop} : ∀ {xs : List α} {ys : List β} {x : α} {y : β}, Paired F xs ys → F x y → Paired F (xs ++ [x]) (ys ++ [y])
  | _, _, _, _, .nil, f => .cons f .nil
  | _, _, _, _, .cons r t, f => .cons r (Paired.e_snoc t f)
theorem Paired.e_app {α β : Type} {F : α → β → Prop} : ∀ {xs xs' : List α} {ys ys' : List β}, Paired F xs ys → Paired F xs' ys' → Paired F (xs ++ xs') (ys ++ ys')
  | _, _, _, _, .nil, f => f
  | _, _, _, _, .cons r t, f => .cons r (Paired.e_app t f)
theorem Paired.e_at2 {α β : Type} {F : α → β → Prop} : ∀ {xs : List α} {ys : List β}, Paired F xs ys → ∀ {i : Nat} {y : β}, ys[i]? = some y → ∃ x, xs[i]? = some x ∧ F x y
  | _, _, .nil, _, _, e => by simp at e
  | _, _, .cons r t, 0, _, e => by simp at e; subst e; exact ⟨_, rfl, r⟩
  | _, _, .cons r t, i + 1, _, e => by
    obtain ⟨x, h1, h2⟩ := Paired.e_at2 t (i := i) (by simpa using e)
    exact ⟨x, by simpa using h1, h2⟩
theorem Paired.e_len {α β : Type} {F : α → β → Prop} {xs : List α} {ys : List β} (h : Paired F xs ys) : xs.length = ys.length := Paired.length h
theorem Paired.e_drop {α β : Type} {F : α → β → Prop} : ∀ {xs : List α} {ys : List β} (n : Nat), Paired F xs ys → Paired F (xs.drop n) (ys.drop n)
  | _, _, 0, h => h
  | _, _, n + 1, .nil => .nil
  | _, _, n + 1, .cons _ t => Paired.e_drop n t
theorem Paired.e_take {α β : Type} {F : α → β → Prop} : ∀ {xs : List α} {ys : List β} (n : Nat), Paired F xs ys → Paired F (xs.take n) (ys.take n)
  | _, _, 0, _ => .nil
  | _, _, _ + 1, .nil => .nil
  | _, _, n + 1, .cons r t => .cons r (Paired.e_take n t)
end PySem
namespace EL
open PySem L2
theorem take_succ {α : Type} {l : List α} {i : Nat} {x : α} (h : l[i]? = some x) : l.take (i + 1) = l.take i ++ [x] := by
  rw [List.take_add_one, h]; rfl
theorem map_at {α β : Type} {f : α → β} {l : List α} {i : Nat} {y : β} (h : (l.map f)[i]? = some y) : ∃ x, l[i]? = some x ∧ f x = y := by
  rw [List.getElem?_map] at h
  cases e : l[i]? with
  | none => rw [e] at h; cases h
  | some z => rw [e] at h; exact ⟨z, rfl, Option.some.inj h⟩
theorem lt_of_at {α : Type} {l : List α} {i : Nat} {x : α} (h : l[i]? = some x) : i < l.length := (List.getElem?_eq_some_iff.mp h).1

/-! ### what a caller has of a def -/
structure Ca (P : Program) (w : World) (K : PySem.W.Frag) (mg : Str → Option Value) (base : Heap) (CX : CXT) (k : Nat) (x : Str) (ps : List Str) (sp : Sp) : Prop where
  ex : ∃ f fd, FnOk P w K mg base CX k f fd ps sp ∧ mg x = some (.ref f) ∧ PySem.W.keepIn K (.ref f) = true ∧ Binds K fd ps []
theorem Ca.mono {P : Program} {w : World} {K : PySem.W.Frag} {mg : Str → Option Value} {base : Heap} {CX : CXT} {j k : Nat} {x : Str} {ps : List Str} {sp : Sp} (c : Ca P w K mg base CX j x ps sp) (h : j ≤ k) : Ca P w K mg base CX k x ps sp := by
  obtain ⟨f, fd, F, r⟩ := c
  exact ⟨f, fd, F.mono h, r⟩
section
variable {X : Cx} {CX : CXT} {k : Nat} {ps : List Str} {sp : Sp} {E : XK} {x : Str} {p pos : Pos} {e : Expr} {es : List Expr} {t : TA}
theorem pe_ca (c : Ca X.prog X.w X.K X.mg X.base CX k x ps sp) (hr : Room k X.A) (hg : Gl X x) (hx : Passes CX X E)
    (ha : PA X (e :: es) t) (hdb : (x == ("__debug__" : Str)) = false := by decide) (he : starEach (e :: es) X.env = (false, eval e X.env) :: starEach es X.env := by rfl) (hpl : (backTo pos (starEach es X.env)).any (·.1) = false := by rfl) :
    PE X (.Call (.Name x p) (e :: es) [] pos) (tCall sp [] E t) := by
  obtain ⟨f, fd, F, hm, hk, hb⟩ := c
  exact pe_call F hr hg hm hk hb .nil hx ha hdb he hpl
end
/-- f(e, .., k = v) of keyword-only parameters, all given -/
structure CaK (P : Program) (w : World) (K : PySem.W.Frag) (mg : Str → Option Value) (base : Heap) (CX : CXT) (k : Nat) (x : Str) (n : Nat) (ks ps : List Str) (sp : Sp) : Prop where
  ex : ∃ f fd, FnOk P w K mg base CX k f fd ps sp ∧ mg x = some (.ref f) ∧ PySem.W.keepIn K (.ref f) = true ∧ KBn K fd ps n ks (fun us ws => us ++ ws) (fun vs zs => vs ++ zs)
section
variable {X : Cx} {CX : CXT} {k n : Nat} {ps ks : List Str} {sp : Sp} {E : XK} {x : Str} {p pos : Pos} {e : Expr} {es : List Expr} {kws : List Keyword} {t tk : TA}
theorem pe_caK (c : CaK X.prog X.w X.K X.mg X.base CX k x n ks ps sp) (hr : Room k X.A) (hg : Gl X x) (hx : Passes CX X E)
    (ha : PA X (e :: es) t) (hkw : PK X kws tk) (hall : (backToKw pos (keywordEach kws X.env)).all (·.1.isSome) = true := by rfl) (hks : (backToKw pos (keywordEach kws X.env)).filterMap (·.1) = ks := by rfl)
    (hdb : (x == ("__debug__" : Str)) = false := by decide) (he : starEach (e :: es) X.env = (false, eval e X.env) :: starEach es X.env := by rfl)
    (hpl : ((backTo pos (starEach (e :: es) X.env)).any (·.1) || (backToKw pos (keywordEach kws X.env)).any (·.1.isNone)) = false := by rfl) :
    PE X (.Call (.Name x p) (e :: es) kws pos) (tCallN n ks.length sp (fun vs zs => vs ++ zs) E t tk) := by
  obtain ⟨f, fd, F, hm, hk, hb⟩ := c
  exact pe_callN F hr hg hm hk hb hx ha hkw hall hks hdb he hpl
end
/-! ### the rules with the written part named (within a comprehension's block it must not hang on the block) -/
section
variable {X : Cx} (K : PySem.W.Frag) (e : X.K = K := by rfl)
include e
theorem kIn : OpR X (compareOp .In) (rIn K false) := e ▸ op_in_seq
theorem kNotIn : OpR X (compareOp .NotIn) (rIn K true) := e ▸ op_notIn_seq
theorem kIxT : IxR X (rIxT K) := e ▸ ix_tup
theorem kIxL : IxR X (rIxL K) := e ▸ ix_list
theorem kIsi : CallR X (.builtin "isinstance") (rIsi K) := e ▸ call_isi
theorem kIsiT : CallR X (.builtin "isinstance") (rIsiT K) := e ▸ call_isiT
def rLen (K : PySem.W.Frag) : List V → Hp → VK → Prop := fun xs H Q => ∃ p ys, xs = [.ref p] ∧ (SqL K H p ys ∨ SqT K H p ys) ∧ Q (.int ys.length) H
theorem kLen : CallR X (.builtin "len") (rLen K) := e ▸ call_len_seq
theorem kAll (hc : X.calm = true) : CallR X (.builtin "all") (rAll K) := e ▸ cr_all hc
theorem kSum (hc : X.calm = true) : CallR X (.builtin "sum") (rSum K) := e ▸ cr_sum hc
theorem kSorted : CallR X (.builtin "sorted") (rSorted K) := e ▸ cr_sorted
theorem kSlA : SlR X (rSlA K) := e ▸ sl_tupA
theorem kSlL : SlR X (rSlL K) := e ▸ sl_list
theorem kCatA : OpR X (binaryOp .Add) (rCatA K) := e ▸ op_catA
theorem kEqD (hu : X.A.units + 64 < cLine) : OpR X (compareOp .Eq) (rEqD K) := e ▸ op_eqD hu
theorem kNeD (hu : X.A.units + 64 < cLine) : OpR X (compareOp .NotEq) (rNeD K) := e ▸ op_neD hu
theorem kList : CallR X (.type "list") (fun xs H Q => ∃ p ys, xs = [.ref p] ∧ (SqL K H p ys ∨ SqT K H p ys) ∧ ∀ l, H l = none → Q (.ref l) (upd H l (.lst ys))) := e ▸ call_list_of
variable {tg l : Expr} {tl : TE} {es : List Expr} {k n : Nat} {t : TGs} {pos : Pos} {f : Str} {ta : TE}
theorem kPiL (hl : PE X l tl) : PI X tg l (iList K tl) := e ▸ pi_list hl
theorem kPiT (hl : PE X l tl) : PI X tg l (iTup K tl) := e ▸ pi_tup hl
theorem kTg (hc : X.calm = true) (h : PGs X es t) (hn : (assignEach es X.env).length = n := by rfl) (hst : (assignEach es X.env).findIdx? (·.1) = none := by rfl) : PG X (.Tuple es k pos) (gTup K n t) := e ▸ pg_tup hc h hn hst
theorem kFld (he : PE X l ta) (hb : attributeBase l f X.env (eval l X.env) = eval l X.env := by rfl) : PE X (.Attribute l f pos) (tFld K ta f) := e ▸ pe_fld he hb
end
end EL

set_option maxHeartbeats 4000000
namespace EL
open PySem L2
/-! ### entries: ascending lists of ints -/
abbrev Asc (l : List Int) : Prop := l.Pairwise (· < ·)
/-- two ascending lists with the same members are one -/
theorem asc_ext : ∀ {l l' : List Int}, Asc l → Asc l' → (∀ x, x ∈ l ↔ x ∈ l') → l = l'
  | [], [], _, _, _ => rfl
  | [], y :: r, _, _, h => absurd ((h y).mpr List.mem_cons_self) (by simp)
  | y :: r, [], _, _, h => absurd ((h y).mp List.mem_cons_self) (by simp)
  | x :: l, y :: l', a, b, h => by
    obtain ⟨a1, a2⟩ := List.pairwise_cons.mp a
    obtain ⟨b1, b2⟩ := List.pairwise_cons.mp b
    have e : x = y := by
      rcases List.mem_cons.mp ((h x).mp List.mem_cons_self) with e | e
      · exact e
      · rcases List.mem_cons.mp ((h y).mpr List.mem_cons_self) with f | f
        · exact f.symm
        · have := b1 x e; have := a1 y f; omega
    subst e
    rw [asc_ext a2 b2 fun z => ?_]
    constructor
    · intro hz
      rcases List.mem_cons.mp ((h z).mp (List.mem_cons_of_mem _ hz)) with e | e
      · have := a1 z hz; omega
      · exact e
    · intro hz
      rcases List.mem_cons.mp ((h z).mpr (List.mem_cons_of_mem _ hz)) with e | e
      · have := b1 z hz; omega
      · exact e
theorem asc_filter {l : List Int} (a : Asc l) (p : Int → Bool) : Asc (l.filter p) := List.Pairwise.filter p a
theorem asc_nodup {l : List Int} (a : Asc l) : l.Nodup := a.imp (fun h => by omega)
/-- entries without a value -/
def outV (s : List Int) (r : Option Int) : List Int := s.filter fun n => !decide (V.int n = rowV r)
/-- entries with a value -/
def addV (s : List Int) (v : Int) : List Int := s.filter (fun n => decide (n < v)) ++ v :: s.filter (fun n => decide (v < n))
theorem mem_addV {s : List Int} {v x : Int} : x ∈ addV s v ↔ x ∈ s ∨ x = v := by
  unfold addV
  rw [List.mem_append, List.mem_cons, List.mem_filter, List.mem_filter]
  simp only [decide_eq_true_eq]
  constructor
  · rintro (⟨h, _⟩ | h | ⟨h, _⟩)
    · exact .inl h
    · exact .inr h
    · exact .inl h
  · rintro (h | h)
    · rcases Int.lt_trichotomy x v with q | q | q
      · exact .inl ⟨h, q⟩
      · exact .inr (.inl q)
      · exact .inr (.inr ⟨h, q⟩)
    · exact .inr (.inl h)
theorem asc_addV {s : List Int} (a : Asc s) (v : Int) : Asc (addV s v) := by
  unfold addV
  refine List.pairwise_append.mpr ⟨asc_filter a _, List.pairwise_cons.mpr ⟨fun y hy => ?_, asc_filter a _⟩, fun x hx y hy => ?_⟩
  · have := (List.mem_filter.mp hy).2; simp at this; omega
  · have h1 := (List.mem_filter.mp hx).2
    simp at h1
    rcases List.mem_cons.mp hy with rfl | hy
    · exact h1
    · have := (List.mem_filter.mp hy).2; simp at this; omega
theorem addV_same {s : List Int} {v : Int} (a : Asc s) (h : v ∈ s) : addV s v = s :=
  asc_ext (asc_addV a v) a fun x => by
    rw [mem_addV]
    constructor
    · rintro (h' | rfl)
      · exact h'
      · exact h
    · exact .inl
/-- what sorted gives is the ascending list -/
theorem sorted_asc {l ns : List Int} (p : ns.Perm l) (o : ns.Pairwise (· ≤ ·)) (d : l.Nodup) : Asc ns := by
  have nd : ns.Nodup := p.nodup_iff.mpr d
  exact (List.pairwise_and_iff.mpr ⟨o, nd⟩).imp fun {a b} h => by
    obtain ⟨h1, h2⟩ := h
    omega
theorem sorted_addV {s ns : List Int} {v : Int} (a : Asc s) (h : v ∉ s) (p : ns.Perm (s ++ [v])) (o : ns.Pairwise (· ≤ ·)) : ns = addV s v := by
  have d : (s ++ [v]).Nodup := List.nodup_append.mpr ⟨asc_nodup a, by simp, fun x hx y hy => by
    rw [List.mem_singleton.mp hy]; rintro rfl; exact h hx⟩
  refine asc_ext (sorted_asc p o d) (asc_addV a v) fun x => ?_
  rw [p.mem_iff, mem_addV, List.mem_append, List.mem_singleton]
theorem sorted_same {s ns : List Int} (a : Asc s) (p : ns.Perm s) (o : ns.Pairwise (· ≤ ·)) : ns = s :=
  asc_ext (sorted_asc p o (asc_nodup a)) a fun x => p.mem_iff
theorem mem_outV {s : List Int} {r : Option Int} {x : Int} : x ∈ outV s r ↔ x ∈ s ∧ some x ≠ r := by
  unfold outV
  rw [List.mem_filter]
  cases r with
  | none => simp [rowV]
  | some i => simp [rowV]
theorem asc_outV {s : List Int} (a : Asc s) (r : Option Int) : Asc (outV s r) := asc_filter a _
theorem outV_none (s : List Int) : outV s none = s := by
  unfold outV
  rw [List.filter_eq_self]
  intro x _; simp [rowV]
/-- what a server's word does with the entries of an index -/
def srv (w : Str) (old new : Option Int) (s : List Int) : List Int :=
  let s1 := if w = ("absent" : Str) then s else outV s old
  match new with
  | some v => if w = ("public" : Str) ∨ w = ("write" : Str) then addV s1 v else s1
  | none => s1
theorem asc_srv {w : Str} {old new : Option Int} {s : List Int} (a : Asc s) : Asc (srv w old new s) := by
  unfold srv
  have h1 : Asc (if w = ("absent" : Str) then s else outV s old) := by
    split
    · exact a
    · exact asc_outV a old
  cases new with
  | none => exact h1
  | some v =>
    dsimp only
    split
    · exact asc_addV h1 v
    · exact h1
end EL

set_option maxHeartbeats 4000000
namespace EL
open PySem L2
/-- the names that the defs look up: built-ins that the module leaves alone, its own constants and classes -/
structure Txt (K : PySem.W.Frag) (mg : Str → Option Value) (C aW aX : Addr) : Prop where
  n_isinstance : mg "isinstance" = none
  n_int : mg "int" = none
  n_bool : mg "bool" = none
  n_str : mg "str" = none
  n_tuple : mg "tuple" = none
  n_list : mg "list" = none
  n_len : mg "len" = none
  n_all : mg "all" = none
  n_range : mg "range" = none
  n_sorted : mg "sorted" = none
  n_zip : mg "zip" = none
  n_enumerate : mg "enumerate" = none
  n_sum : mg "sum" = none
  n_max : mg "max" = none
  n_set : mg "set" = none
  n_super : mg "super" = none
  g_WORDS : mg "WORDS" = some (.ref aW)
  w_WORDS : ∃ (o : Obj) (its : Array Value) (n : Nat), K.lookup aW = some o ∧ o.cls = .type "tuple" ∧ o.data = .seq its n ∧ its.size ≤ sizeLine ∧ Vals ((["absent", "delete", "public", "write"] : List Str).map V.str) its.toList
  g_WISHES : mg "WISHES" = some (.ref aX)
  w_WISHES : ∃ (o : Obj) (its : Array Value) (n : Nat), K.lookup aX = some o ∧ o.cls = .type "tuple" ∧ o.data = .seq its n ∧ its.size ≤ sizeLine ∧ Vals ((["left", "missed", "stray"] : List Str).map V.str) its.toList
  g_MOST_STEPS : ∃ t, mg "MOST_STEPS" = some (.int 12 t)
  g_MOST_LAG : ∃ t, mg "MOST_LAG" = some (.int 4 t)
  g_Schedule : mg "Schedule" = some (.ref C)
  cl : Cls K C
  nR : NoAttr K C "row"
  nE : NoAttr K C "every"
  kSelf : PySem.W.kitOne K (.ref C) (.ref C) = some true
  hcl : PySem.W.findIn K (.ref C) "__class__" = some (some (.builtin "object.__class__"))
  hsp : PySem.W.specialIn K (.builtin "object.__class__") "__get__" = some (some (.builtin "getset_descriptor.__get__"))
  htk : PySem.W.takesIn K (.builtin "object.__class__") = some true
  hmo : PySem.W.mroIn K C (.type "object") = some true
/-- a property of the class, its getter's promise -/
structure Pr (P : Program) (w : World) (K : PySem.W.Frag) (mg : Str → Option Value) (base : Heap) (C : Addr) (k : Nat) (x : Str) (sp : Sp) : Prop where
  ex : ∃ p g fd ps, PropOf K C x p g ∧ FnOk P w K mg base CX0 k g fd ps sp ∧ Binds K fd ps []
theorem pe_pr {X : Cx} {C : Addr} {k : Nat} {x : Str} {sp : Sp} {e : Expr} {pos : Pos} {ta : TE} (c : Pr X.prog X.w X.K X.mg X.base C k x sp) (cl : Cls X.K C) (hr : Room (k + 1) X.A) (he : PE X e ta)
    (hab : attributeBase e x X.env (eval e X.env) = eval e X.env := by rfl) : PE X (.Attribute e x pos) (tProp C sp [] E0 ta) := by
  obtain ⟨p, g, fd, ps, hp, F, hb⟩ := c
  exact pe_prop he cl hp F hr hb .nil pass0 hab
section
variable {P : Program} {w : World} {K : PySem.W.Frag} {mg : Str → Option Value} {base : Heap} {C aW aX f : Addr} {fd : FuncData}

/-! ### is_whole -/
abbrev sIsWhole : Stmt := top 13
def spIsWhole : Sp := fun vs H Q _ => ∃ v lo hi : Int, vs = [.int v, .int lo, .int hi] ∧ Q (.bl (decide (lo ≤ v) && decide (v ≤ hi))) H
theorem scIsWhole : FnScope ["value", "low", "high"] ["value", "low", "high"] (defScope sIsWhole) := ⟨rfl, rfl, rfl, by decide +kernel, rfl, by decide +kernel, by decide +kernel⟩
theorem ok_is_whole (F : Fun K "is_whole" "is_whole" sIsWhole f fd) (T : Txt K mg C aW aX) : FnOk P w K mg base CX0 1 f fd ["value", "low", "high"] spIsWhole := by
  refine F.ok scIsWhole (fun vs H Q E h => ?_) (fun cdv A outer s H vs Q E hr h => ?_)
  · obtain ⟨_, _, _, rfl, _⟩ := h; rfl
  · obtain ⟨v, lo, hi, rfl, k⟩ := h
    have nd := scIsWhole.nd
    refine ⟨_, (pss_one (ps_ret (pe_and (pe_callB call_isi (by rfl) T.n_isinstance (by decide +kernel) (pa_cons (pv 0) (pa_cons (pe_bltn (v := .ty "int") (u := .type "int") (by rfl) T.n_int (by decide +kernel) rfl) pa_nil))) (pe_and (pe_not (pe_callB call_isi (by rfl) T.n_isinstance (by decide +kernel) (pa_cons (pv 0) (pa_cons (pe_bltn (v := .ty "bool") (u := .type "bool") (by rfl) T.n_bool (by decide +kernel) rfl) pa_nil)))) (pe_one (pe_chain op_le op_le (pv 1) (pv 0) (pv 2))))))), ?_⟩
    refine ⟨_, rfl, _, _, _, _, true, rfl, .ty "int", .base (.int v), kit_ty (by decide +kernel), true, rfl, ?_⟩
    refine iteT ⟨_, rfl, _, _, _, _, false, rfl, .ty "bool", .base (.int v), kit_ty (by decide +kernel), false, rfl, true, rfl, iteT ?_⟩
    refine ⟨_, rfl, _, rfl, _, _, rfl, rfl, _, rfl, ?_⟩
    by_cases c : lo ≤ v
    · rw [decide_eq_true c, Bool.true_and] at k
      rw [if_pos (decide_eq_true c)]
      exact ⟨_, rfl, _, _, rfl, rfl, k⟩
    · rw [decide_eq_false c, Bool.false_and] at k
      rw [if_neg (by rw [decide_eq_false c]; decide)]
      exact k

/-! ### without -/
abbrev sWithout : Stmt := top 28
def spWithout : Sp := fun vs H Q _ => ∃ (x : V) (s : List Int) (r : Option Int), vs = [x, rowV r] ∧ IntsT H x s ∧ s.length ≤ 1000 ∧ ∀ H' u, Same H H' → IntsT H' u (outV s r) → Q u H'
theorem scWithout : FnScope ["some", "value", "one"] ["some", "value"] (defScope sWithout) := ⟨rfl, rfl, rfl, by decide +kernel, rfl, by decide +kernel, by decide +kernel⟩
theorem ok_without (F : Fun K "without" "without" sWithout f fd) (T : Txt K mg C aW aX) : FnOk P w K mg base CX0 1 f fd ["some", "value"] spWithout := by
  refine F.ok scWithout (fun vs H Q E h => ?_) (fun cdv A outer s H vs Q E hr h => ?_)
  · obtain ⟨_, _, _, rfl, _⟩ := h; rfl
  · obtain ⟨x, s, r, rfl, ⟨a, rfl, ha⟩, hl, k⟩ := h
    have nd := scWithout.nd
    refine ⟨_, (pss_one (ps_ret (pe_tupleOf (by rfl) T.n_tuple (pe_lc  (own := [("one", 2)]) rfl nd (pi_tup (pv 0)) (blkOk_by (by kernel_rfl)) (fun _ _ _ _ _ => (pg_name (i := 2) nd rfl (by first | exact Or.inl rfl | exact Or.inr rfl))) (fun _ _ _ _ _ => (pts_one (pt_cmpR op_ne (pv 2) (pv 1) (nomark _)))) (fun _ _ _ _ _ => (pv 2)))))), ?_⟩
    refine ⟨_, rfl, a, rfl, ⟨_, .of ha⟩, fun D hD => lc_tup (K := K) (a := a) (xs := s.map V.int) (fun i H' => Same H H' ∧ H' D = some (.lst ((outV (s.take i) r).map V.int)) ∧ (outV (s.take i) r).length ≤ i)
      ⟨Same.new hD, upd_same, by simp [outV]⟩ (fun i H' _ h => SqT.of (h.1 _ _ ha)) ?_ ?_⟩
    · rintro i y H' hi ⟨s1, h1, h2⟩
      obtain ⟨n, hn, rfl⟩ := map_at hi
      refine ⟨rfl, _, rfl, _, rfl, ?_, _, rfl, ?_⟩
      · cases r <;> rfl
      · have et : s.take (i + 1) = s.take i ++ [n] := take_succ hn
        have hil := lt_of_at hn
        by_cases c : V.int n = rowV r
        · have e0 : outV (s.take (i + 1)) r = outV (s.take i) r := by rw [et]; unfold outV; rw [List.filter_append]; simp [c]
          refine ifF (by rw [decide_eq_true c]; rfl) ?_
          rw [e0]
          exact ⟨s1, h1, by omega⟩
        · have e0 : outV (s.take (i + 1)) r = outV (s.take i) r ++ [n] := by rw [et]; unfold outV; rw [List.filter_append]; simp [c]
          refine ifT (by rw [decide_eq_false c]; rfl) ?_
          refine ⟨_, rfl, _, h1, ?_, ?_⟩
          · rw [List.length_map]; exact small1000 (by omega)
          · rw [e0]
            exact ⟨Same.own s1 hD, by rw [List.map_append]; exact upd_same, by rw [List.length_append]; simp; omega⟩
    · rintro H' ⟨s1, h1, h2⟩
      rw [List.length_map, List.take_length] at h1
      refine .inl ⟨D, _, rfl, .of h1, fun q hq => k _ _ (s1.trans (Same.new hq)) ⟨q, rfl, upd_same⟩⟩
end
end EL

set_option maxHeartbeats 4000000
namespace EL
open PySem L2
section
variable {P : Program} {w : World} {K : PySem.W.Frag} {mg : Str → Option Value} {base : Heap} {C aW aX f : Addr} {fd : FuncData}
theorem inV_ints {v : Int} : ∀ {s : List Int}, L2.inV (.int v) (s.map V.int) = decide (v ∈ s)
  | [] => by simp [L2.inV]
  | x :: r => by
    have ih := inV_ints (v := v) (s := r)
    unfold L2.inV at ih ⊢
    rw [List.map_cons, List.any_cons, ih]
    by_cases e : x = v
    · subst e; simp [eqV]
    · have e' : ¬ v = x := fun q => e q.symm
      simp [eqV, e, e']
theorem flat_ints (s : List Int) : (s.map V.int).all flatV = true := by
  rw [List.all_map]; exact List.all_eq_true.mpr fun _ _ => rfl
theorem flat_words (s : List Str) : (s.map V.str).all flatV = true := by
  rw [List.all_map]; exact List.all_eq_true.mpr fun _ _ => rfl
theorem inV_words {v : Str} : ∀ {s : List Str}, L2.inV (.str v) (s.map V.str) = decide (v ∈ s)
  | [] => by simp [L2.inV]
  | x :: r => by
    have ih := inV_words (v := v) (s := r)
    unfold L2.inV at ih ⊢
    rw [List.map_cons, List.any_cons, ih]
    by_cases e : x = v
    · subst e; simp [eqV]
    · have e' : ¬ v = x := fun q => e q.symm
      simp [eqV, e, e']
/-! ### with_value -/
abbrev sWithValue : Stmt := top 27
def spWithValue : Sp := fun vs H Q _ => ∃ (x : V) (s : List Int) (v : Int), vs = [x, .int v] ∧ IntsT H x s ∧ Asc s ∧ s.length ≤ 60 ∧ ∀ H' u, Same H H' → IntsT H' u (addV s v) → Q u H'
theorem scWithValue : FnScope ["some", "value"] ["some", "value"] (defScope sWithValue) := ⟨rfl, rfl, rfl, by decide +kernel, rfl, by decide +kernel, by decide +kernel⟩
theorem ok_with_value (F : Fun K "with_value" "with_value" sWithValue f fd) (T : Txt K mg C aW aX) : FnOk P w K mg base CX0 1 f fd ["some", "value"] spWithValue := by
  refine F.ok scWithValue (fun vs H Q E h => ?_) (fun cdv A outer s H vs Q E hr h => ?_)
  · obtain ⟨_, _, _, rfl, _⟩ := h; rfl
  · obtain ⟨x, s, v, rfl, ⟨a, rfl, ha⟩, asc, hl, k⟩ := h
    have nd := scWithValue.nd
    refine ⟨_, (pss_one (ps_ret (pe_ifExp (pt_cmpR op_in_seq (pv 1) (pv 0) rfl) (pv 0) (pe_tupleOf (by rfl) T.n_tuple (pe_callB cr_sorted (by rfl) T.n_sorted (by decide +kernel) (pa_cons (pe_lst (StX.pa_star (pv 0) (pa_cons (pv 1) pa_nil))) pa_nil)))))), ?_⟩
    refine ⟨_, rfl, _, rfl, a, _, rfl, .inr (.of ha), rfl, flat_ints s, _, rfl, ?_⟩
    rw [inV_ints]
    by_cases c : v ∈ s
    · refine ifT (by simp [c]) ⟨_, rfl, k _ _ (Same.refl H) ?_⟩
      rw [addV_same asc c]
      exact ⟨a, rfl, ha⟩
    · refine ifF (by simp [c]) ⟨_, rfl, a, _, rfl, .inl (.of ha), _, rfl, ?_, fun p hp => ?_⟩
      · show (s.map V.int ++ [V.int v]).length ≤ sizeLine
        rw [List.length_append, List.length_map]
        exact Nat.le_of_lt (small1000 (by simp; omega))
      refine ⟨p, s ++ [v], rfl, .of (upd_same.trans (by simp)), by simp; omega, fun ns' q pm so hq => ?_⟩
      have e := sorted_addV asc c pm so
      subst e
      refine .inl ⟨q, _, rfl, .of upd_same, fun t ht => k _ _ ?_ ⟨t, rfl, upd_same⟩⟩
      exact ((Same.new hp).trans (Same.new hq)).trans (Same.new ht)
/-! ### served -/
abbrev sServed : Stmt := top 29
def servedM (e : List Str) (old new : Option Int) (es : List (List Int)) : List (List Int) := List.zipWith (fun w s => srv w old new s) e es
def AscL (es : List (List Int)) : Prop := ∀ s ∈ es, Asc s ∧ s.length ≤ 50
def spServed : Sp := fun vs H Q _ => ∃ (e x : V) (ws : List Str) (es : List (List Int)) (old new : Option Int), vs = [e, rowV old, x, rowV new] ∧ WordsT H e ws ∧ EntsT H x es ∧ ws.length = es.length ∧ AscL es ∧ es.length ≤ 60 ∧
  ∀ H' u, Same H H' → EntsT H' u (servedM ws old new es) → Q u H'
theorem scServed : FnScope ["edition", "row", "entries", "value", "found", "word", "some"] ["edition", "row", "entries", "value"] (defScope sServed) := ⟨rfl, rfl, rfl, by decide +kernel, rfl, by decide +kernel, by decide +kernel⟩
theorem len_outV (s : List Int) (r : Option Int) : (outV s r).length ≤ s.length := List.length_filter_le _ _
theorem ok_served (F : Fun K "served" "served" sServed f fd) (T : Txt K mg C aW aX) (c_without : Ca P w K mg base CX0 1 "without" ["some", "value"] spWithout) (c_with_value : Ca P w K mg base CX0 1 "with_value" ["some", "value"] spWithValue) :
    FnOk P w K mg base CX0 2 f fd ["edition", "row", "entries", "value"] spServed := by
  refine F.ok scServed (fun vs H Q E h => ?_) (fun cdv A outer s H vs Q E hr h => ?_)
  · obtain ⟨_, _, _, _, _, _, rfl, _⟩ := h; rfl
  · obtain ⟨e, x, ws, es, old, new, rfl, ⟨a, rfl, ha⟩, ⟨b, xs, rfl, hb, pb⟩, hl, asc, h60, k⟩ := h
    have nd := scServed.nd
    refine ⟨_, (pss_cons (ps_set (i := 4) nd rfl (by first | exact Or.inl rfl | exact Or.inr rfl) (pe_lst pa_nil))
      (pss_cons (ps_for PassesOwn.never rfl (RZ.pi_zipA (by rfl) T.n_zip (pa_cons (pv 0) (pa_cons (pv 2) pa_nil))) (pg_tup rfl (pgs_cons (pg_name (i := 5) nd rfl (by first | exact Or.inl rfl | exact Or.inr rfl)) (pgs_cons (pg_name (i := 6) nd rfl (by first | exact Or.inl rfl | exact Or.inr rfl)) pgs_nil))) (pss_cons (ps_if (pt_cmpR op_ne (pv 5) pe_str (nomark _)) (pss_one (ps_set (i := 6) nd rfl (by first | exact Or.inl rfl | exact Or.inr rfl) (pe_ca c_without (hr.mono (by decide)) (by rfl) pass0 (pa_cons (pv 6) (pa_cons (pv 1) pa_nil))))) pss_nil)
      (pss_cons (ps_if (PW.pt (pw_and (pt_cmpR op_in_seq (pv 5) (pe_tup (pa_cons pe_str (pa_cons pe_str pa_nil))) rfl) (pw_and1 (pt_cmp (pc_notN (pv 3)))))) (pss_one (ps_set (i := 6) nd rfl (by first | exact Or.inl rfl | exact Or.inr rfl) (pe_ca c_with_value (hr.mono (by decide)) (by rfl) pass0 (pa_cons (pv 6) (pa_cons (pv 3) pa_nil))))) pss_nil)
      (pss_one (ps_expr (pe_bm PySem.F.plainAttrs_list PySem.F.slot_list_append PySem.F.type_list_append mt_append (pv 4) (pa_cons (pv 6) pa_nil)))))))
      (pss_one (ps_ret (pe_tupleOf (by rfl) T.n_tuple (pv 4)))))), ?_⟩
    refine ⟨by show 0 ≤ sizeLine; decide, fun F hF => ?_⟩
    have lx : xs.length = es.length := pb.e_len
    refine ⟨_, rfl, _, rfl, a, b, _, _, rfl, .inr ⟨.of ((Same.new hF).at ha), .of ((Same.new hF).at hb), RZ.for_zipT (by rw [List.length_map]; omega)
      (fun i σ H' => ∃ v1 v2 : Option V, σ = [some (.ref a), some (rowV old), some (.ref b), some (rowV new), some (.ref F), v1, v2] ∧ Same H H' ∧ ∃ ys, H' F = some (.lst ys) ∧ Paired (IntsT H') ys ((servedM ws old new es).take i))
      ⟨none, none, rfl, Same.new hF, [], upd_same, .nil⟩ (fun i σ H' ⟨_, _, _, s1, _⟩ => ⟨.of (s1.at ha), .of (s1.at hb)⟩) ?_ ?_⟩⟩
    · rintro i y z T1 σ H' hy hz ⟨v1, v2, rfl, s1, ys, hys, py⟩ hT
      obtain ⟨wd, hwd, rfl⟩ := map_at hy
      obtain ⟨en, hen, ren⟩ := pb.e_at hz
      obtain ⟨as_en, len_en⟩ := asc en (List.mem_of_getElem? hen)
      have hes : (servedM ws old new es)[i]? = some (srv wd old new en) := by
        unfold servedM
        rw [List.getElem?_zipWith, hwd, hen]
      have hil := lt_of_at hen
      have s2 : Same H (upd H' T1 (.tup [.str wd, z])) := Same.trans s1 (Same.new hT)
      have s2' := s2
      have hF2 : (upd H' T1 (.tup [.str wd, z])) F = some (.lst ys) := (Same.new hT).at hys
      refine ⟨T1, _, rfl, .of upd_same, rfl, _, _, rfl, _, _, rfl, rfl, ?_⟩
      refine seq_cut (fun σ' H2 => ∃ (u : V) (en2 : List Int), σ' = [some (.ref a), some (rowV old), some (.ref b), some (rowV new), some (.ref F), some (.str wd), some u] ∧ Same (upd H' T1 (.tup [.str wd, z])) H2 ∧ IntsT H2 u en2 ∧
          en2 = (if wd = ("absent" : Str) then en else outV en old) ∧ Asc en2 ∧ en2.length ≤ 50) (fun R hR => ?_) ?_
      · refine ⟨_, rfl, rfl, _, rfl, ?_⟩
        by_cases c : wd = ("absent" : Str)
        · refine ifF (by simp [c]) (hR _ _ ⟨z, en, rfl, Same.refl _, ?_, by rw [if_pos c], as_en, len_en⟩)
          exact mono_ints.go (Keep.of s2') ren
        · refine ifT (by simp [c]) ?_
          refine ⟨_, rfl, _, rfl, z, en, old, rfl, mono_ints.go (Keep.of s2') ren, by omega, fun H3 u s3 iu => hR _ _ ⟨u, _, rfl, s3, iu, by rw [if_neg c], asc_outV as_en _, Nat.le_trans (len_outV _ _) len_en⟩⟩
      · rintro σ' H2 ⟨u, en2, rfl, s3, iu, e2, as2, l2⟩
        refine seq_cut (fun σ' H3 => ∃ (u : V), σ' = [some (.ref a), some (rowV old), some (.ref b), some (rowV new), some (.ref F), some (.str wd), some u] ∧ Same H2 H3 ∧ IntsT H3 u (srv wd old new en)) (fun R hR => ?_) ?_
        · refine ⟨_, rfl, by show 2 ≤ sizeLine; decide, fun p hp => ?_⟩
          refine ⟨p, _, rfl, .inr (.of upd_same), rfl, rfl, _, rfl, ?_⟩
          have iu' := mono_ints.go (Keep.new (o := .tup [.str "public", .str "write"]) hp) iu
          have e3 : L2.inV (.str wd) [.str "public", .str "write"] = decide (wd ∈ (["public", "write"] : List Str)) := inV_words (s := ["public", "write"])
          have e3' : (if false = true then !L2.inV (.str wd) [.str "public", .str "write"] else L2.inV (.str wd) [.str "public", .str "write"]) = decide (wd ∈ (["public", "write"] : List Str)) := e3
          by_cases c : wd ∈ (["public", "write"] : List Str)
          · refine ifT (by rw [e3']; exact decide_eq_true c) ?_
            have c' : wd = ("public" : Str) ∨ wd = ("write" : Str) := by simpa using c
            cases new with
            | none =>
              refine ⟨_, rfl, _, rfl, ifF rfl (hR _ _ ⟨u, rfl, Same.new hp, ?_⟩)⟩
              have e4 : srv wd old none en = en2 := by rw [e2]; rfl
              rw [e4]; exact iu'
            | some v =>
              refine ⟨_, rfl, _, rfl, ifT rfl ?_⟩
              refine ⟨_, rfl, _, rfl, u, en2, v, rfl, iu', as2, by omega, fun H3 u3 s4 iu3 => hR _ _ ⟨u3, rfl, (Same.new hp).trans s4, ?_⟩⟩
              have e4 : srv wd old (some v) en = addV en2 v := by rw [e2]; unfold srv; dsimp only; rw [if_pos c']
              rw [e4]; exact iu3
          · refine ifF (by rw [e3']; exact decide_eq_false c) (ifF rfl (hR _ _ ⟨u, rfl, Same.new hp, ?_⟩))
            have c' : ¬ (wd = ("public" : Str) ∨ wd = ("write" : Str)) := fun q => c (by simpa using q)
            have e4 : srv wd old new en = en2 := by
              rw [e2]; unfold srv; cases new with
              | none => rfl
              | some v => dsimp only; rw [if_neg c']
            rw [e4]; exact iu'
        · rintro σ' H3 ⟨u3, rfl, s4, iu3⟩
          have hF3 : H3 F = some (.lst ys) := s4.at (s3.at hF2)
          have lys : ys.length = i := by rw [py.e_len, List.length_take]; unfold servedM; rw [List.length_zipWith]; omega
          refine ⟨_, rfl, .inl ⟨rfl, _, .of hF3⟩, _, rfl, F, ys, u3, rfl, rfl, hF3, small1000 (by omega), some (.str wd), some u3, rfl, (((s2.trans s3).trans s4).own hF), ys ++ [u3], upd_same, ?_⟩
          rw [take_succ hes]
          have kp : Keep H3 (upd H3 F (.lst (ys ++ [u3]))) := Keep.lst hF3
          exact (mono_paired mono_ints ((Keep.of ((Same.trans (Same.new hT) s3).trans s4)).trans kp) py).e_snoc (mono_ints.go kp iu3)
    · rintro σ H' ⟨v1, v2, rfl, s1, ys, hys, py⟩
      have e1 : (servedM ws old new es).take (ws.map V.str).length = servedM ws old new es := by
        apply List.take_of_length_le
        unfold servedM; rw [List.length_zipWith, List.length_map]; omega
      rw [e1] at py
      refine ⟨_, rfl, .inl ⟨F, ys, rfl, .of hys, fun q hq => k _ _ (s1.trans (Same.new hq)) ⟨q, ys, rfl, upd_same, mono_paired mono_ints (Keep.new hq) py⟩⟩⟩
end
end EL

set_option maxHeartbeats 4000000
namespace EL
open PySem L2
abbrev wordsL : List Str := ["absent", "delete", "public", "write"]
structure OkEd (ws : List Str) : Prop where
  len : ws.length = 1 ∨ ws.length = 2
  ok : ∀ w ∈ ws, w ∈ wordsL
def OkStp (many : Nat) : Stp → Prop
  | .ed e => OkEd e ∧ e.length = many
  | .fill i => i < many
  | .sweep i => i < many
structure OkSch (S : Sch) : Prop where
  w1 : 1 ≤ S.width
  w3 : S.width ≤ 3
  first : OkEd S.first
  n12 : S.steps.length ≤ 12
  steps : ∀ t ∈ S.steps, OkStp S.first.length t
theorem tru_rep (i : Nat) : ((List.replicate i true).map V.bl) ++ [V.bl true] = (List.replicate (i + 1) true).map V.bl := by
  rw [List.replicate_succ', List.map_append]; rfl
theorem all_rep (i : Nat) : (List.replicate i true).all id = true := by
  rw [List.all_replicate]; simp
section
variable {P : Program} {w : World} {K : PySem.W.Frag} {mg : Str → Option Value} {base : Heap} {C aW aX f : Addr} {fd : FuncData}
/-! ### is_edition -/
abbrev sIsEdition : Stmt := top 14
def spIsEdition : Sp := fun vs H Q _ => ∃ (x : V) (ws : List Str), vs = [x] ∧ WordsT H x ws ∧ OkEd ws ∧ ∀ H', Same H H' → Q (.bl true) H'
theorem scIsEdition : FnScope ["value", "word"] ["value"] (defScope sIsEdition) := ⟨rfl, rfl, rfl, by decide +kernel, rfl, by decide +kernel, by decide +kernel⟩
theorem ok_is_edition (F : Fun K "is_edition" "is_edition" sIsEdition f fd) (T : Txt K mg C aW aX) : FnOk P w K mg base CX0 1 f fd ["value"] spIsEdition := by
  refine F.ok scIsEdition (fun vs H Q E h => ?_) (fun cdv A outer s H vs Q E hr h => ?_)
  · obtain ⟨_, _, rfl, _⟩ := h; rfl
  · obtain ⟨x, ws, rfl, ⟨a, rfl, ha⟩, ok, k⟩ := h
    have nd := scIsEdition.nd
    refine ⟨_, (pss_cons (ps_if (PW.pt (pw_or (pt_not (pt_val (pe_callB (kIsi K) (by rfl) T.n_isinstance (by decide +kernel) (pa_cons (pv 0) (pa_cons (pe_bltn (v := .ty "tuple") (u := .type "tuple") (by rfl) T.n_tuple (by decide +kernel) rfl) pa_nil))))) (pw_or1 (pt_not (pt_chain op_le op_le pe_int (pe_callB (kLen K) (by rfl) T.n_len PySem.boot_len (pa_cons (pv 0) pa_nil)) pe_int))))) (pss_one (ps_ret pe_bl)) pss_nil)
      (pss_one (ps_ret (pe_callB (cr_all rfl) (by rfl) T.n_all (by decide +kernel) (pa_cons (pe_lc  (own := [("word", 1)]) rfl nd (pi_tup (pv 0)) (blkOk_by (by kernel_rfl)) (fun _ _ _ _ _ => (pg_name (i := 1) nd rfl (by first | exact Or.inl rfl | exact Or.inr rfl))) (fun _ _ _ _ _ => pts_nil) (fun _ _ _ _ _ => (pe_and (pe_callB (kIsi K) (by rfl) T.n_isinstance (by decide +kernel) (pa_cons (pv 1) (pa_cons (pe_bltn (v := .ty "str") (u := .type "str") (by rfl) T.n_str (by decide +kernel) rfl) pa_nil))) (pe_one (pe_cmpR (kIn K) (pv 1) (pe_glob (v := .ref aW) (by rfl) T.g_WORDS rfl) rfl))))) pa_nil))))), ?_⟩
    refine ⟨_, rfl, _, _, _, _, true, rfl, .ty "tuple", .base (.tup ha), kit_ty (by decide +kernel), true, rfl, ifF rfl ?_⟩
    have hl : (ws.map V.str).length = ws.length := List.length_map ..
    refine ⟨_, rfl, a, _, rfl, .inr (.of ha), _, _, rfl, rfl, _, rfl, ifT (decide_eq_true (by rw [hl]; rcases ok.len with e | e <;> rw [e] <;> decide)) ⟨_, _, rfl, rfl, _, rfl, ifF (by rw [decide_eq_true (by rw [hl]; rcases ok.len with e | e <;> rw [e] <;> decide)]; rfl) ?_⟩⟩
    refine ⟨_, rfl, a, rfl, ⟨_, .of ha⟩, fun D hD => lc_tup (K := K) (a := a) (xs := ws.map V.str) (fun i H' => Same H H' ∧ H' D = some (.lst ((List.replicate i true).map V.bl)))
      ⟨Same.new hD, upd_same⟩ (fun i H' _ h => SqT.of (h.1 _ _ ha)) ?_ ?_⟩
    · rintro i y H' hi ⟨s1, h1⟩
      obtain ⟨wd, hw, rfl⟩ := map_at hi
      have hil := lt_of_at hw
      refine ⟨rfl, yes (ifT rfl ⟨_, rfl, _, _, _, _, true, rfl, .ty "str", .base (.str _), kit_ty (by decide +kernel), true, rfl, ifT rfl ?_⟩)⟩
      refine ⟨_, rfl, aW, _, rfl, .inr (.inr T.w_WORDS), rfl, flat_words _, _, h1, ?_, Same.own s1 hD, ?_⟩
      · rw [List.length_map, List.length_replicate]; exact small1000 (by rcases ok.len with e | e <;> omega)
      · rw [show (if false = true then !L2.inV (V.str wd) (List.map V.str wordsL) else L2.inV (V.str wd) (List.map V.str wordsL)) = true from by
          show L2.inV (V.str wd) (List.map V.str wordsL) = true
          rw [inV_words]; exact decide_eq_true (ok.ok wd (List.mem_of_getElem? hw))]
        rw [tru_rep]; exact upd_same
    · rintro H' ⟨s1, h1⟩
      refine ⟨D, _, rfl, .of h1, ?_⟩
      rw [all_rep]
      exact k _ s1
/-! ### is_step -/
abbrev sIsStep : Stmt := top 15
def spIsStep : Sp := fun vs H Q _ => ∃ (m : Nat) (x : V) (t : Stp), vs = [.int m, x] ∧ StpT H x t ∧ OkStp m t ∧ ∀ H', Same H H' → Q (.bl true) H'
theorem scIsStep : FnScope ["many", "value"] ["many", "value"] (defScope sIsStep) := ⟨rfl, rfl, rfl, by decide +kernel, rfl, by decide +kernel, by decide +kernel⟩
theorem stp_at {H : Hp} {x : V} {t : Stp} (h : StpT H x t) : ∃ a y, x = .ref a ∧ H a = some (.tup [.str t.kind, y]) ∧ (∀ e, t = .ed e → WordsT H y e) ∧ (∀ i : Nat, t = .fill i → y = .int i) ∧ (∀ i : Nat, t = .sweep i → y = .int i) := by
  cases t with
  | ed e => obtain ⟨a, y, rfl, h, w⟩ := h; exact ⟨a, y, rfl, h, (fun _ q => by cases q; exact w), (fun _ q => nomatch q), (fun _ q => nomatch q)⟩
  | fill i => obtain ⟨a, rfl, h⟩ := h; exact ⟨a, _, rfl, h, (fun _ q => nomatch q), (fun _ q => by cases q; rfl), (fun _ q => nomatch q)⟩
  | sweep i => obtain ⟨a, rfl, h⟩ := h; exact ⟨a, _, rfl, h, (fun _ q => nomatch q), (fun _ q => nomatch q), fun _ q => by cases q; rfl⟩
theorem at0 {x y : V} : atI [x, y] 0 = some x := rfl
theorem at1 {x y : V} : atI [x, y] 1 = some y := rfl
theorem ok_is_step (F : Fun K "is_step" "is_step" sIsStep f fd) (T : Txt K mg C aW aX) (c_is_edition : Ca P w K mg base CX0 1 "is_edition" ["value"] spIsEdition) (c_is_whole : Ca P w K mg base CX0 1 "is_whole" ["value", "low", "high"] spIsWhole) :
    FnOk P w K mg base CX0 2 f fd ["many", "value"] spIsStep := by
  refine F.ok scIsStep (fun vs H Q E h => ?_) (fun cdv A outer s H vs Q E hr h => ?_)
  · obtain ⟨_, _, _, rfl, _⟩ := h; rfl
  · obtain ⟨m, x, t, rfl, ht, ok, k⟩ := h
    have nd := scIsStep.nd
    obtain ⟨a, y, rfl, ha, h1, h2, h3⟩ := stp_at ht
    refine ⟨_, (pss_cons (ps_if (PW.pt (pw_or (pt_not (pt_val (pe_callB call_isi (by rfl) T.n_isinstance (by decide +kernel) (pa_cons (pv 1) (pa_cons (pe_bltn (v := .ty "tuple") (u := .type "tuple") (by rfl) T.n_tuple (by decide +kernel) rfl) pa_nil))))) (pw_or (pt_cmpR op_ne (pe_callB call_len_seq (by rfl) T.n_len PySem.boot_len (pa_cons (pv 1) pa_nil)) pe_int (nomark _)) (pw_or1 (pt_not (pt_val (pe_callB call_isi (by rfl) T.n_isinstance (by decide +kernel) (pa_cons (pe_ix ix_tup (pv 1) pe_int (fun _ _ => rfl)) (pa_cons (pe_bltn (v := .ty "str") (u := .type "str") (by rfl) T.n_str (by decide +kernel) rfl) pa_nil))))))))) (pss_one (ps_ret pe_bl)) pss_nil)
      (pss_cons (ps_if (pt_cmpR op_eq (pe_ix ix_tup (pv 1) pe_int (fun _ _ => rfl)) pe_str (nomark _)) (pss_one (ps_ret (pe_and (pe_ca c_is_edition (hr.mono (by decide)) (by rfl) pass0 (pa_cons (pe_ix ix_tup (pv 1) pe_int (fun _ _ => rfl)) pa_nil)) (pe_one (pe_cmpR op_eq (pe_callB call_len_seq (by rfl) T.n_len PySem.boot_len (pa_cons (pe_ix ix_tup (pv 1) pe_int (fun _ _ => rfl)) pa_nil)) (pv 0) (nomark _)))))) pss_nil)
      (pss_one (ps_ret (pe_and (pe_cmpR op_in_seq (pe_ix ix_tup (pv 1) pe_int (fun _ _ => rfl)) (pe_tup (pa_cons pe_str (pa_cons pe_str pa_nil))) rfl) (pe_one (pe_ca c_is_whole (hr.mono (by decide)) (by rfl) pass0 (pa_cons (pe_ix ix_tup (pv 1) pe_int (fun _ _ => rfl)) (pa_cons pe_int (pa_cons (pe_op op_sub (pv 0) pe_int) pa_nil)))))))))), ?_⟩
    refine ⟨_, rfl, _, _, _, _, true, rfl, .ty "tuple", .base (.tup ha), kit_ty (by decide +kernel), true, rfl, ifF rfl ?_⟩
    refine ⟨_, rfl, a, _, rfl, .inr (.of ha), rfl, _, rfl, ifF rfl ?_⟩
    refine ⟨_, rfl, a, _, _, _, rfl, rfl, .of ha, at0, _, _, _, _, true, rfl, .ty "str", .base (.str _), kit_ty (by decide +kernel), true, rfl, ifF rfl ?_⟩
    refine ⟨_, rfl, a, _, _, _, rfl, rfl, .of ha, at0, rfl, _, rfl, ?_⟩
    have fin2 : ∀ i : Nat, y = .int i → i < m → t.kind ∈ (["fill", "sweep"] : List Str) → 
        (tRet (tAndV (tOp (rIn K false) (tOp (rIxT K) (tVar 1) (tC (.int 0))) (tTup (tCons (tC (.str "fill")) (tCons (tC (.str "sweep")) tNil)))) (tCall spIsWhole [] E0 (tCons (tOp (rIxT K) (tVar 1) (tC (.int 1))) (tCons (tC (.int 0)) (tCons (tOp (rI0 fun i j => .int (i - j)) (tVar 0) (tC (.int 1))) tNil))))))
          { nx := fun _ H' => Q .non H', rt := Q } (L2.start ["many", "value"] [.int m, .ref a]) H := by
      rintro i rfl hi hk
      refine ⟨_, rfl, a, _, _, _, rfl, rfl, .of ha, at0, by show 2 ≤ sizeLine; decide, fun p hp => ?_⟩
      have s1 := Same.new (o := .tup [.str "fill", .str "sweep"]) hp
      refine ⟨p, _, rfl, .inr (.of upd_same), rfl, rfl, true, ?_, ifT rfl ?_⟩
      · show V.bl (L2.inV (.str t.kind) ((["fill", "sweep"] : List Str).map V.str)) = .bl true
        rw [inV_words, decide_eq_true hk]
      · refine ⟨_, rfl, a, _, _, _, rfl, rfl, .of (s1.at ha), at1, _, rfl, _, _, rfl, rfl, i, 0, (m : Int) - 1, rfl, ?_⟩
        rw [decide_eq_true (by omega), decide_eq_true (by omega)]
        exact k _ s1
    cases t with
    | ed e =>
      refine ifT rfl ?_
      obtain ⟨b, rfl, hb⟩ := h1 e rfl
      refine ⟨_, rfl, a, _, _, _, rfl, rfl, .of ha, at1, _, e, rfl, ⟨b, rfl, hb⟩, ok.1, fun H' s1 => ⟨true, rfl, ifT rfl ?_⟩⟩
      refine ⟨_, rfl, a, _, _, _, rfl, rfl, .of (s1.at ha), at1, b, _, rfl, .inr (.of (s1.at hb)), _, rfl, rfl, ?_⟩
      rw [show decide (V.int (((e.map V.str).length : Nat) : Int) = V.int (m : Int)) = true from decide_eq_true (by rw [List.length_map, ok.2])]
      exact k _ s1
    | fill i => exact ifF rfl (fin2 i (h2 i rfl) ok (by show ("fill" : Str) ∈ (["fill", "sweep"] : List Str); simp))
    | sweep i => exact ifF rfl (fin2 i (h3 i rfl) ok (by show ("sweep" : Str) ∈ (["fill", "sweep"] : List Str); simp))
/-! ### are_steps -/
abbrev sAreSteps : Stmt := top 16
def spAreSteps : Sp := fun vs H Q _ => ∃ (m : Nat) (x : V) (ts : List Stp), vs = [.int m, x] ∧ StpsT H x ts ∧ ts.length ≤ 12 ∧ (∀ t ∈ ts, OkStp m t) ∧ ∀ H', Same H H' → Q (.bl true) H'
theorem scAreSteps : FnScope ["many", "value", "step"] ["many", "value"] (defScope sAreSteps) := ⟨rfl, rfl, rfl, by decide +kernel, rfl, by decide +kernel, by decide +kernel⟩
theorem ok_are_steps (F : Fun K "are_steps" "are_steps" sAreSteps f fd) (T : Txt K mg C aW aX) (c_is_step : Ca P w K mg base CX0 2 "is_step" ["many", "value"] spIsStep) :
    FnOk P w K mg base CX0 3 f fd ["many", "value"] spAreSteps := by
  refine F.ok scAreSteps (fun vs H Q E h => ?_) (fun cdv A outer s H vs Q E hr h => ?_)
  · obtain ⟨_, _, _, rfl, _⟩ := h; rfl
  · obtain ⟨m, x, ts, rfl, ⟨a, xs, rfl, ha, pa⟩, h12, ok, k⟩ := h
    have nd := scAreSteps.nd
    obtain ⟨tS, gS⟩ := T.g_MOST_STEPS
    refine ⟨_, (pss_cons (ps_if (PW.pt (pw_or (pt_not (pt_val (pe_callB call_isi (by rfl) T.n_isinstance (by decide +kernel) (pa_cons (pv 1) (pa_cons (pe_bltn (v := .ty "tuple") (u := .type "tuple") (by rfl) T.n_tuple (by decide +kernel) rfl) pa_nil))))) (pw_or1 (pt_cmpR op_gt (pe_callB call_len_seq (by rfl) T.n_len PySem.boot_len (pa_cons (pv 1) pa_nil)) (pe_glob (v := .int 12) (by rfl) gS ⟨_, rfl⟩) (nomark _))))) (pss_one (ps_ret pe_bl)) pss_nil)
      (pss_one (ps_ret (pe_callB (cr_all rfl) (by rfl) T.n_all (by decide +kernel) (pa_cons (pe_lc  (own := [("step", 2)]) rfl nd (pi_tup (pv 1)) (blkOk_by (by kernel_rfl)) (fun _ _ _ _ _ => (pg_name (i := 2) nd rfl (by first | exact Or.inl rfl | exact Or.inr rfl))) (fun _ _ _ _ _ => pts_nil) (fun _ _ _ _ _ => (pe_ca c_is_step (hr.mono (by decide)) (by rfl) pass0 (pa_cons (pv 0) (pa_cons (pv 2) pa_nil))))) pa_nil))))), ?_⟩
    refine ⟨_, rfl, _, _, _, _, true, rfl, .ty "tuple", .base (.tup ha), kit_ty (by decide +kernel), true, rfl, ifF rfl ?_⟩
    have lx := pa.e_len
    refine ⟨_, rfl, a, _, rfl, .inr (.of ha), _, _, rfl, rfl, _, rfl, ifF (decide_eq_false (by omega)) ?_⟩
    refine ⟨_, rfl, a, rfl, ⟨_, .of ha⟩, fun D hD => lc_tup (K := K) (a := a) (xs := xs) (fun i H' => Same H H' ∧ H' D = some (.lst ((List.replicate i true).map V.bl)))
      ⟨Same.new hD, upd_same⟩ (fun i H' _ h => SqT.of (h.1 _ _ ha)) ?_ ?_⟩
    · rintro i y H' hi ⟨s1, h1⟩
      obtain ⟨t, ht, rt⟩ := pa.e_at hi
      have hil := lt_of_at ht
      refine ⟨rfl, yes (ifT rfl ⟨_, rfl, _, rfl, m, y, t, rfl, mono_stp.go (Keep.of s1) rt, ok t (List.mem_of_getElem? ht), fun H2 s2 => ⟨_, s2.at h1, ?_, Same.own (s1.trans s2) hD, ?_⟩⟩)⟩
      · rw [List.length_map, List.length_replicate]; exact small1000 (by omega)
      · rw [tru_rep]; exact upd_same
    · rintro H' ⟨s1, h1⟩
      refine ⟨D, _, rfl, .of h1, ?_⟩
      rw [all_rep]
      exact k _ s1
end
end EL

set_option maxHeartbeats 4000000
namespace EL
open PySem L2
theorem filt_ed {ts : List Stp} {i : Nat} {t : Stp} (h : ts[i]? = some t) : (ts.take (i + 1)).filterMap Stp.ed? = (ts.take i).filterMap Stp.ed? ++ (match t with | .ed e => [e] | _ => []) := by
  rw [take_succ h, List.filterMap_append]
  cases t <;> rfl
theorem len_filt (ts : List Stp) (i : Nat) : ((ts.take i).filterMap Stp.ed?).length ≤ ts.length := Nat.le_trans (List.length_filterMap_le _ _) (by rw [List.length_take]; omega)
theorem put_row (v : V) : putF "row" v [] = ([("row", v)] : List (Str × V)) := rfl
theorem put_every (r e : V) : putF "every" e ([("row", r)] : List (Str × V)) = fsS r e := by
  show (if ("row" : Str) = "every" then _ else _) = _
  rw [if_neg (by decide +kernel)]; rfl
theorem lk_row (r e : V) : (fsS r e).lookup ("row" : Str) = some r := by
  show (match (("row" : Str) == "row") with | true => some r | false => List.lookup ("row" : Str) [(("every" : Str), e)]) = some r
  rw [show (("row" : Str) == "row") = true from by decide +kernel]
theorem lk_every (r e : V) : (fsS r e).lookup ("every" : Str) = some e := by
  show (match (("every" : Str) == "row") with | true => some r | false => List.lookup ("every" : Str) [(("every" : Str), e)]) = some e
  rw [show (("every" : Str) == "row") = false from by decide +kernel]
  rfl
theorem not_ed_kind {t : Stp} : (decide (V.str t.kind = V.str "edition")) = t.isEd := by
  cases t
  · exact decide_eq_true rfl
  · exact decide_eq_false (fun q => absurd (V.str.inj q) (show ¬ ("fill" : Str) = "edition" by decide +kernel))
  · exact decide_eq_false (fun q => absurd (V.str.inj q) (show ¬ ("sweep" : Str) = "edition" by decide +kernel))
section
variable {P : Program} {w : World} {K : PySem.W.Frag} {mg : Str → Option Value} {base : Heap} {C aW aX f : Addr} {fd : FuncData}
/-! ### Schedule.__init__ -/
abbrev sInit : Stmt := inClass (top 17) 0
def spInit (C : Addr) : Sp := fun vs H Q _ => ∃ (p dx : Addr) (x y : V) (S : Sch), vs = [.ref p, .int S.width, x, y] ∧ H p = some (.ins C dx []) ∧ WordsT H x S.first ∧ StpsT H y S.steps ∧ OkSch S ∧
  ∀ H', (∀ b o, H b = some o → b ≠ p → H' b = some o) → SchT C H' (.ref p) S → Q .non H'
theorem scInit : FnScope ["self", "width", "first", "steps", "step"] ["self", "width", "first", "steps"] (defScope sInit) := ⟨rfl, rfl, rfl, by decide +kernel, rfl, by decide +kernel, by decide +kernel⟩
theorem ok_init (F : Fun K "__init__" "Schedule.__init__" sInit f fd) (T : Txt K mg C aW aX) (c_is_whole : Ca P w K mg base CX0 1 "is_whole" ["value", "low", "high"] spIsWhole)
    (c_is_edition : Ca P w K mg base CX0 1 "is_edition" ["value"] spIsEdition) (c_are_steps : Ca P w K mg base CX0 3 "are_steps" ["many", "value"] spAreSteps) :
    FnOk P w K mg base CX0 4 f fd ["self", "width", "first", "steps"] (spInit C) := by
  refine F.ok scInit (fun vs H Q E h => ?_) (fun cdv A outer s H vs Q E hr h => ?_)
  · obtain ⟨_, _, _, _, _, rfl, _⟩ := h; rfl
  · obtain ⟨p, dx, x, y, S, rfl, hp, hx, hy, ok, k⟩ := h
    have nd := scInit.nd
    refine ⟨_, (pss_cons (ps_if (pt_not (pt_val (pe_ca c_is_whole (hr.mono (by decide)) (by rfl) pass0 (pa_cons (pv 1) (pa_cons pe_int (pa_cons pe_int pa_nil)))))) (pss_one ps_never) pss_nil)
      (pss_cons (ps_if (pt_not (pt_val (pe_ca c_is_edition (hr.mono (by decide)) (by rfl) pass0 (pa_cons (pv 2) pa_nil)))) (pss_one ps_never) pss_nil)
      (pss_cons (ps_if (pt_not (pt_val (pe_ca c_are_steps (hr.mono (by decide)) (by rfl) pass0 (pa_cons (pe_callB (kLen K) (by rfl) T.n_len PySem.boot_len (pa_cons (pv 2) pa_nil)) (pa_cons (pv 3) pa_nil))))) (pss_one ps_never) pss_nil)
      (pss_cons (ps_fld (pv 0) (pe_tup (pa_cons (pv 1) (pa_cons (pv 2) (pa_cons (pv 3) pa_nil)))) rfl)
      (pss_one (ps_fld (pv 0) (pe_tup (pa_cons (pv 2) (StX.pa_star (pe_lc  (own := [("step", 4)]) rfl nd (kPiT K rfl (pv 3)) (blkOk_by (by kernel_rfl)) (fun _ _ _ _ _ => (pg_name (i := 4) nd rfl (by first | exact Or.inl rfl | exact Or.inr rfl))) (fun _ _ _ _ _ => (pts_one (pt_cmpR op_eq (pe_ix (kIxT K) (pv 4) pe_int (fun _ _ => rfl)) pe_str (nomark _)))) (fun _ _ _ _ _ => (pe_ix (kIxT K) (pv 4) pe_int (fun _ _ => rfl)))) pa_nil))) rfl)))))), ?_⟩
    refine ⟨_, rfl, _, 1, 3, rfl, true, ?_, ?_⟩
    · rw [decide_eq_true (by have := ok.w1; omega), decide_eq_true (by have := ok.w3; omega)]; rfl
    refine ifF rfl ⟨_, rfl, x, S.first, rfl, hx, ok.first, fun H1 s1 => ⟨true, rfl, ifF rfl ?_⟩⟩
    obtain ⟨a, rfl, ha⟩ := hx
    obtain ⟨b, ys, rfl, hb, pb⟩ := hy
    refine ⟨_, rfl, a, _, rfl, .inr (.of (s1.at ha)), _, rfl, S.first.length, _, S.steps, (by rw [List.length_map]; rfl), ⟨b, ys, rfl, s1.at hb, mono_paired mono_stp (Keep.of s1) pb⟩, ok.n12, ok.steps, fun H2 s2 => ⟨true, rfl, ifF rfl ?_⟩⟩
    have s12 := s1.trans s2
    -- self.row
    refine ⟨_, rfl, _, rfl, _, rfl, by show 3 ≤ sizeLine; decide, fun r hr' => ?_⟩
    have s3 : Same H (upd H2 r (.tup [.int S.width, .ref a, .ref b])) := s12.trans (Same.new hr')
    have npr : p ≠ r := s12.ne hp hr'
    refine ⟨_, rfl, p, C, dx, [], rfl, s3.at hp, T.cl, T.nR, by show 0 < 1000; decide, ?_⟩
    rw [put_row]
    -- self.every
    have hp4 : ∀ o, (upd (upd H2 r (.tup [.int S.width, .ref a, .ref b])) p o) p = some o := fun o => upd_same
    generalize hH4 : upd (upd H2 r (.tup [.int S.width, .ref a, .ref b])) p (.ins C dx [("row", .ref r)]) = H4
    have kt4 : KT H H4 := by rw [← hH4]; exact (Keep.of s3).t.trans (KT.ins (s3.at hp))
    have ex4 : ∀ c o, H c = some o → c ≠ p → H4 c = some o := fun c o e n => by rw [← hH4, upd_ne n]; exact s3.at e
    have hp4 : H4 p = some (.ins C dx [("row", .ref r)]) := by rw [← hH4]; exact upd_same
    have hr4 : H4 r = some (.tup [.int S.width, .ref a, .ref b]) := by rw [← hH4, upd_ne npr.symm]; exact upd_same
    have ha4 : H4 a = some (.tup (S.first.map V.str)) := kt4 _ _ ha
    have hb4 : H4 b = some (.tup ys) := kt4 _ _ hb
    have pb4 : Paired (StpT H4) ys S.steps := mono_pairedT mono_stp kt4 pb
    refine ⟨_, rfl, _, rfl, b, rfl, ⟨_, .of hb4⟩, fun D hD => lc_tup (K := K) (a := b) (xs := ys) (fun i H' => Same H4 H' ∧ ∃ zs, H' D = some (.lst zs) ∧ Paired (WordsT H') zs ((S.steps.take i).filterMap Stp.ed?))
      ⟨Same.new hD, [], upd_same, .nil⟩ (fun i H' _ h => SqT.of (h.1 _ _ hb4)) ?_ ?_⟩
    · rintro i v H' hi ⟨s5, zs, hz, pz⟩
      obtain ⟨t, ht, rt⟩ := pb4.e_at hi
      have hil := lt_of_at ht
      obtain ⟨c, u, rfl, hc, e1, e2, e3⟩ := stp_at (mono_stp.go (Keep.of s5) rt)
      refine ⟨rfl, _, rfl, c, _, _, _, rfl, rfl, .of hc, at0, rfl, _, rfl, ?_⟩
      rw [not_ed_kind, filt_ed ht]
      have lz : zs.length ≤ S.steps.length := by rw [pz.e_len]; exact len_filt _ _
      have h12 := ok.n12
      cases t with
      | ed e =>
        refine ifT rfl ⟨_, rfl, c, _, _, _, rfl, rfl, .of hc, at1, zs, hz, small1000 (by omega), Same.own s5 hD, zs ++ [u], upd_same, ?_⟩
        have kp : Keep H' (upd H' D (.lst (zs ++ [u]))) := Keep.lst hz
        exact (mono_paired mono_words kp pz).snoc (mono_words.go kp (e1 e rfl))
      | fill i => exact ifF rfl ⟨s5, zs, hz, by rw [List.append_nil]; exact pz⟩
      | sweep i => exact ifF rfl ⟨s5, zs, hz, by rw [List.append_nil]; exact pz⟩
    · rintro H' ⟨s5, zs, hz, pz⟩
      have ly : ys.length = S.steps.length := pb.e_len
      rw [ly, List.take_length] at pz
      have lz : zs.length ≤ S.steps.length := by rw [pz.e_len]; exact List.length_filterMap_le _ _
      have h12 := ok.n12
      refine ⟨D, zs, rfl, .inr (.of hz), ?_, fun q hq => ?_⟩
      · show (V.ref a :: (zs ++ [])).length ≤ sizeLine
        exact Nat.le_of_lt (small1000 (by simp; omega))
      rw [List.append_nil]
      have s6 : Same H4 (upd H' q (.tup (V.ref a :: zs))) := s5.trans (Same.new hq)
      refine ⟨_, rfl, p, C, dx, _, rfl, s6.at hp4, T.cl, T.nE, by show 1 < 1000; decide, ?_⟩
      rw [put_every]
      have npq : p ≠ q := s5.ne hp4 hq
      have kt6 : KT H4 (upd (upd H' q (.tup (V.ref a :: zs))) p (.ins C dx (fsS (.ref r) (.ref q)))) := (Keep.of s6).t.trans (KT.ins (s6.at hp4))
      refine k _ (fun c o e n => by rw [upd_ne n]; exact s6.at (ex4 c o e n)) ⟨p, dx, r, .ref a, .ref b, .ref q, rfl, upd_same, kt6 _ _ hr4, ⟨a, rfl, kt6 _ _ ha4⟩, ⟨b, ys, rfl, kt6 _ _ hb4, mono_pairedT mono_stp kt6 pb4⟩, ⟨q, V.ref a :: zs, rfl, ?_, ?_⟩⟩
      · rw [upd_ne npq.symm]; exact upd_same
      · refine .cons ⟨a, rfl, kt6 _ _ ha4⟩ ?_
        exact mono_pairedT mono_words ((Keep.of (Same.new hq)).t.trans (KT.ins (s6.at hp4))) pz
end
end EL

set_option maxHeartbeats 4000000
namespace EL
open PySem PySem.Spec PyProof.Rows L2
open AutoSeq1 (wpAny_loadPart')
/-! ### enumerate of a tuple -/
set_option maxHeartbeats 4000000 in
theorem meets_enum_newT (l : Addr) (items : Array Value) (n : Nat) (dct : Option Addr) (sl : Array (Option Value)) :
    Meets (Builtin.«enumerate.__new__» ⟨[.type "enumerate", .ref l], []⟩) (fun _ R s => s.heap.get? l = some { cls := .type "tuple", dict := dct, data := .seq items n, slots := sl } ∧
      R (.ok (.ret (.ref (s.heap.push { cls := .type "tuple_iterator", data := .fields #[.ref l, .int 0 0] }).objs.size)))
        { s with heap := (s.heap.push { cls := .type "tuple_iterator", data := .fields #[.ref l, .int 0 0] }).push { cls := .type "enumerate", data := .fields #[.none, .bool false, .ref s.heap.objs.size, rawInt 0, .none, .none] } }) :=
  .of_wp fun prog w A R s h => by
    obtain ⟨hp, g, d, tk, os⟩ := s; obtain ⟨hl, h⟩ := h
    have hsub := sub_enumerate
    have hL : Heap.IsTuple (Shared.heap ⟨hp, g, d, tk, os⟩) l items := ⟨_, hl, rfl, n, rfl⟩
    wp_walk using wpAny_loadPart' hl
    refine wpAny_stack_any fun st => wpAny_pure ?_
    split
    · rename_i c _ _ _ _ _
      cases (c == Value.type "enumerate")
      · wp_walk using wpAny_loadPart' hl, wpAny_pyIter_tuple hL
        exact ⟨_, rfl, h⟩
      · wp_walk using wpAny_loadPart' hl, wpAny_pyIter_tuple hL
        exact ⟨_, rfl, h⟩
    · wp_walk using wpAny_loadPart' hl, wpAny_pyIter_tuple hL
      exact ⟨_, rfl, h⟩
section
variable {prog : Program} {w : World} {A : Around} {E : Value → Shared → Prop} {s : Shared}
theorem call_enum_tuple {l : Addr} {items : Array Value} {Q : Value → Shared → Prop} (hL : s.heap.IsTuple l items)
    (h : ∀ h', IsEnum h' (s.heap.objs.size + 1) s.heap.objs.size 0 .none → h'.IsTupleIter s.heap.objs.size l 0 → h'.objs.size = s.heap.objs.size + 2 →
      (∀ b o, s.heap.get? b = some o → h'.get? b = some o) → Q (.ref (s.heap.objs.size + 1)) { s with heap := h' }) :
    wpAny (model prog w) A (call (.type "enumerate") [.ref l]) Q E s := by
  obtain ⟨⟨c, dct, dt, sl⟩, hl, hc, n, hd⟩ := hL
  replace hc : c = .type "tuple" := hc
  replace hd : dt = .seq items n := hd
  subst hc hd
  refine callType_new F.called_enumerate (by decide) (F.typeCall_enumerate_1 _) (F.newCall_enumerate_1 _) (fun obj => F.args_object_init_2 obj _) F.entry_enumerate_new
    (meets_enum_newT l items n dct sl) ⟨hl, ?_⟩
  have hz : (s.heap.push { cls := .type "tuple_iterator", data := .fields #[.ref l, .int 0 0] }).objs.size = s.heap.objs.size + 1 := Heap.size_push ..
  show _ ∧ _
  rw [hz]
  have he : IsEnum ((s.heap.push { cls := .type "tuple_iterator", data := .fields #[.ref l, .int 0 0] }).push
      { cls := .type "enumerate", data := .fields #[.none, .bool false, .ref s.heap.objs.size, rawInt 0, .none, .none] }) (s.heap.objs.size + 1) s.heap.objs.size 0 .none := by
    have := Heap.get?_push_size (s.heap.push { cls := .type "tuple_iterator", data := .fields #[.ref l, .int 0 0] })
      (o := { cls := .type "enumerate", data := .fields #[.none, .bool false, .ref s.heap.objs.size, rawInt 0, .none, .none] }) rfl
    rw [hz] at this; exact this
  refine ⟨⟨_, he, rfl⟩, h _ he ⟨_, Heap.get?_push_of_some _ (Heap.get?_push_size _ rfl), rfl, rfl⟩ (by rw [Heap.size_push, hz]) fun b o x => Heap.get?_push_of_some _ (Heap.get?_push_of_some _ x)⟩
end
/-- the tuple at a, each item in a new pair with its place -/
def IteT (a : Addr) : It :=
  ⟨fun i H => ∃ (xs : List V) (x : V), H a = some (.tup xs) ∧ xs[i]? = some x, fun i H v H' => ∃ T x, v = .ref T ∧ H T = none ∧ H' = upd H T (.tup [.int (i : Nat), x]) ∧ ∀ xs, H a = some (.tup xs) → xs[i]? = some x, fun i H => ∃ xs : List V, H a = some (.tup xs) ∧ xs.length = i⟩
theorem turn_enumT {P : Program} {w : World} {K : PySem.W.Frag} {elts : List Expr} {kk : Nat} {tpos : Pos} (a e it : Addr) :
    Turn P w K (.Tuple elts kk tpos) (IteT a) [e, it] e (fun i h => (∃ old, IsEnum h e it ((i : Nat) : Int) old) ∧ h.IsTupleIter it a i ∧ e ≠ it) where
  mem := by simp
  obj := fun i h st b hb => by
    obtain ⟨⟨old, he⟩, ⟨o, ho, hc, hd⟩, _⟩ := st
    have e' : b = e ∨ b = it := by simpa using hb
    rcases e' with z | z
    · rw [z]; exact ⟨_, he, fun v q => nomatch q⟩
    · rw [z]; exact ⟨o, ho, fun v q => by rw [hd] at q; cases q⟩
  keep := fun i h h' st k => let ⟨⟨old, he⟩, hi, hne⟩ := st; ⟨⟨old, k e (by simp) _ he⟩, hi.at fun o q => k it (by simp) o q, hne⟩
  item := by
    intro X hP hw hK hc i pins s σ H E I hf st hg
    subst hP hw hK
    obtain ⟨⟨old, he⟩, hit, hne⟩ := st
    obtain ⟨xs, x, hq, hx⟩ := hg
    obtain ⟨its, rv, p, hz⟩ := I.tuple (SqT.of hq)
    obtain ⟨u, hu, ru⟩ := rv.get hx
    have hel : e < s.heap.objs.size := Heap.lt_size he
    have hil : it < s.heap.objs.size := by obtain ⟨_, q, _⟩ := hit; exact Heap.lt_size q
    have nea : a ≠ e := fun z => by have := (hf e (by simp)).1; rw [← z, hq] at this; cases this
    have nia : a ≠ it := fun z => by have := (hf it (by simp)).1; rw [← z, hq] at this; cases this
    have hlt : i < its.toArray.size := by rw [List.size_toArray, ← rv.length]; exact (List.getElem?_eq_some_iff.mp hx).1
    refine wpAny_pyNext_enum_itemD (Draws.tuple (show X.A.in1.handled = none from I.ok.hd hc) it a nia its.toArray) he ⟨hit, show s.heap.IsTuple a its.toArray from p⟩ hlt hne (by simp [hne, nea.symm]) fun u' h' tk hP ho hst' hT hsz hk => ?_
    obtain ⟨hit', _⟩ := hst'
    have eu : u' = u := by
      have h1 : its[i]? = some u' := by simpa using hP
      rw [hu] at h1; exact (Option.some.inj h1).symm
    subst eu
    refine ⟨_, rfl, wpAny_letOwnedTupleGo_enum (s := { s with heap := h', toks := tk + 1 }) ho fun h'' he' sb => ?_⟩
    have hT2 : h''.get? s.heap.objs.size = some { cls := .type "tuple", data := .seq #[.int i tk, u'] } := (sb.2 _ (Nat.ne_of_gt hel)).trans hT
    have new : ObjOk X.prog X.w (upd H s.heap.objs.size (.tup [.int (i : Nat), x])) h'' s.heap.objs.size (.tup [.int (i : Nat), x]) :=
      ⟨by show 2 ≤ sizeLine; decide, [.int i tk, u'], .cons ⟨_, rfl⟩ (.cons ru .nil), ⟨_, hT2, rfl, _, rfl⟩⟩
    have I1 : Inv X pins σ (upd H s.heap.objs.size (.tup [.int (i : Nat), x])) { s with heap := h'', toks := tk + 1 } :=
      I.turnedNew (ch := [e, it]) (fun b ob hb q => (sb.2 b (fun z => hb (by simp [z]))).trans (hk b ob (fun z => hb (by simp [z])) (fun z => hb (by simp [z])) q)) hf (Nat.le_refl _) new
    refine ⟨.ref s.heap.objs.size, _, I1, rfl, ⟨_, x, rfl, I.hok.fresh (Nat.le_refl _), rfl, fun ys hy => by rw [hq] at hy; cases hy; exact hx⟩, ⟨⟨u', ?_⟩, hit'.at fun o q => (sb.2 it (Ne.symm hne)).trans q, hne⟩, fun b hb => ?_⟩
    · have e1 : ((i + 1 : Nat) : Int) = (i : Int) + 1 := by omega
      rw [e1]; exact he'
    · have hb' : b < s.heap.objs.size := by
        have e' : b = e ∨ b = it := by simpa using hb
        rcases e' with z | z
        · rw [z]; exact hel
        · rw [z]; exact hil
      rw [upd_ne (Nat.ne_of_lt hb')]
      exact (hf b hb).1
  done := by
    intro X hP hw hK hc i pins s σ H E I hf st hg
    subst hP hw hK
    obtain ⟨⟨old, he⟩, hit, hne⟩ := st
    obtain ⟨xs, hq, hx⟩ := hg
    obtain ⟨its, rv, p, hz⟩ := I.tuple (SqT.of hq)
    obtain ⟨f0, f1, f2, f3, f4, f5⟩ := hf it (by simp)
    have hl := rv.length
    have nia : a ≠ it := fun z => by have := (hf it (by simp)).1; rw [← z, hq] at this; cases this
    have hn : i = its.toArray.size := by rw [List.size_toArray]; omega
    subst hn
    exact wpAny_pyNext_enum_endD (Draws.tuple (show X.A.in1.handled = none from I.ok.hd hc) it a nia its.toArray) he ⟨hit, show s.heap.IsTuple a its.toArray from p⟩ fun h' eb => ⟨rfl, I.turned (t' := s.toks) (fun b o hb q => eb b o hb q) f0 f1 f3 f4 f5⟩
  self := fun A i s Q E st h => let ⟨⟨_, he⟩, _⟩ := st; wpAny_pyIter_enum he h
def iEnumT (ta : TA) : TI := fun σ H R => ta σ H fun vs H1 => ∃ a xs, vs = [.ref a] ∧ H1 a = some (.tup xs) ∧ R (IteT a) H1
theorem pi_enumT {X : Cx} {e : Expr} {ta : TA} {p pos tpos : Pos} {elts : List Expr} {kk : Nat} (hg : Gl X "enumerate") (hm : X.mg "enumerate" = none) (ha : PA X [e] ta) (hs : starEach [e] X.env = [(false, eval e X.env)] := by rfl) :
    PI X (.Tuple elts kk tpos) (.Call (.Name "enumerate" p) [e] [] pos) (iEnumT ta) := by
  refine ⟨fun pins s σ H R I h => ?_⟩
  refine Call_ (ld_blt I hg hm boot_enumerate (PyProof.Rows.callWith_type1 (thn (ha.run pos pins s σ H _ I h) fun us s1 ⟨vs, H1, I1, r1, q1⟩ => ?_) hs rfl))
  obtain ⟨a, xs, ex, hq, q⟩ := q1
  subst ex
  cases r1 with
  | cons r rr =>
    cases rr
    cases r
    obtain ⟨its, rv, p', hz⟩ := I1.tuple (SqT.of hq)
    refine call_enum_tuple (show s1.heap.IsTuple a its.toArray from p') fun h' he hit hsz hk => wpAny_pyIter_enum he ?_
    have I2 : Inv X pins σ H1 { s1 with heap := h' } := I1.kept (t' := s1.toks) hk
    refine ⟨s1.heap.objs.size + 1, [s1.heap.objs.size + 1, s1.heap.objs.size], _, _, H1, rfl, I2, turn_enumT a (s1.heap.objs.size + 1) s1.heap.objs.size, ⟨⟨.none, he⟩, hit, Nat.succ_ne_self _⟩, fun b hb => ?_, q⟩
    have e' : b = s1.heap.objs.size + 1 ∨ b = s1.heap.objs.size := by simpa using hb
    have hle : s1.heap.objs.size ≤ b := by
      rcases e' with z | z
      · rw [z]; exact Nat.le_add_right _ _
      · rw [z]; exact Nat.le_refl _
    exact I1.fpOk hle (I1.hok.fresh hle)
theorem walk_enumT {a : Addr} {xs : List V} : L2.Walk (IteT a) xs.length (fun H => H a = some (.tup xs)) (YPair (fun i => some (.int (i : Nat))) (fun i => xs[i]?)) := by
  refine ⟨fun i _ hi q => ⟨xs, xs[i], q, by simp [hi]⟩, fun _ q => ⟨xs, q, rfl⟩, fun i H v H' _ q y => ?_⟩
  obtain ⟨T, x, h1, h2, h3, h4⟩ := y
  exact ⟨T, .int (i : Nat), x, h1, h2, h3, rfl, h4 xs q⟩
/-! ### zip of two tuples, of different lengths -/
theorem walk_zipT {K : PySem.W.Frag} {a b : Addr} {xs ys : List V} {n : Nat} (hn : n = min xs.length ys.length) : L2.Walk (RZ.ItzT K a b) n (fun H => SqT K H a xs ∧ SqT K H b ys) (YPair (fun i => xs[i]?) (fun i => ys[i]?)) := by
  subst hn
  refine ⟨fun i _ hi q => ?_, fun _ q => ⟨xs, ys, q.1, q.2, by omega⟩, fun i H v H' _ q y => ?_⟩
  · have h1 : i < xs.length := by omega
    have h2 : i < ys.length := by omega
    exact ⟨xs, ys, xs[i], ys[i], q.1, q.2, by simp [h1], by simp [h2]⟩
  · obtain ⟨T, x, z, h1, h2, h3, h4, h5⟩ := y
    exact ⟨T, x, z, h1, h2, h3, h4 xs q.1, h5 ys q.2⟩
/-! ### zip of a list and a tuple -/
def ItzM (a b : Addr) : It :=
  ⟨fun i H => ∃ (xs ys : List V) (x y : V), H a = some (.lst xs) ∧ H b = some (.tup ys) ∧ xs[i]? = some x ∧ ys[i]? = some y,
    fun i H v H' => ∃ T x y, v = .ref T ∧ H T = none ∧ H' = upd H T (.tup [x, y]) ∧ (∀ xs, H a = some (.lst xs) → xs[i]? = some x) ∧ ∀ ys, H b = some (.tup ys) → ys[i]? = some y,
    fun i H => ∃ xs ys : List V, H a = some (.lst xs) ∧ H b = some (.tup ys) ∧ i ≤ xs.length ∧ i ≤ ys.length ∧ (i = xs.length ∨ i = ys.length)⟩
structure MSep (z TI TO i1 i2 : Addr) : Prop where
  TIz : TI ≠ z
  TOz : TO ≠ z
  TITO : TI ≠ TO
  TIi1 : TI ≠ i1
  TIi2 : TI ≠ i2
  i1z : i1 ≠ z
  i2z : i2 ≠ z
  Ti1 : TO ≠ i1
  Ti2 : TO ≠ i2
  i12 : i1 ≠ i2
theorem turn_zipM {P : Program} {w : World} {K : PySem.W.Frag} {elts : List Expr} {kk : Nat} {tpos : Pos} {a b z TI TO i1 i2 : Addr} (D : MSep z TI TO i1 i2) :
    Turn P w K (.Tuple elts kk tpos) (ItzM a b) [z, TI, TO, i1, i2] z (fun i h => IsZip h z TI TO .none ∧ IsTupOf2 h TI (.ref i1) (.ref i2) ∧ (∃ x y, IsTupOf2 h TO x y) ∧ h.IsListIter i1 a i ∧ h.IsTupleIter i2 b i) where
  mem := by simp
  obj := fun i h st c hc => by
    obtain ⟨hz, hTI, ⟨x, y, hTO⟩, ⟨o1, e1, _, d1⟩, ⟨o2, e2, _, d2⟩⟩ := st
    have e' : c = z ∨ c = TI ∨ c = TO ∨ c = i1 ∨ c = i2 := by simpa using hc
    rcases e' with q | q | q | q | q
    · rw [q]; exact ⟨_, hz, fun v q => nomatch q⟩
    · rw [q]; exact ⟨_, hTI, fun v q => nomatch q⟩
    · rw [q]; exact ⟨_, hTO, fun v q => nomatch q⟩
    · rw [q]; exact ⟨o1, e1, fun v q => by rw [d1] at q; cases q⟩
    · rw [q]; exact ⟨o2, e2, fun v q => by rw [d2] at q; cases q⟩
  keep := fun i h h' st k => by
    obtain ⟨hz, hTI, ⟨x, y, hTO⟩, h1, h2⟩ := st
    exact ⟨k z (by simp) _ hz, k TI (by simp) _ hTI, ⟨x, y, k TO (by simp) _ hTO⟩, h1.at fun o q => k i1 (by simp) o q, h2.at fun o q => k i2 (by simp) o q⟩
  item := by
    intro X hP hw hK hc i pins s σ H E I hf st hg
    subst hP hw hK
    obtain ⟨hz, hTI, ⟨x0, y0, hTO⟩, h1, h2⟩ := st
    obtain ⟨xs, ys, x, y, hqx, hqy, hx, hy⟩ := hg
    obtain ⟨its, rv, p, _⟩ := I.list (SqL.of (K := X.K) hqx)
    obtain ⟨its2, rv2, p2, _⟩ := I.tuple (SqT.of (K := X.K) hqy)
    obtain ⟨u, hu, ru⟩ := rv.get hx
    obtain ⟨u2, hu2, ru2⟩ := rv2.get hy
    have hzl : z < s.heap.objs.size := Heap.lt_size hz
    have na : ∀ c ∈ [z, TI, TO, i1, i2], a ≠ c := fun c hc q => by have := (hf c hc).1; rw [← q, hqx] at this; cases this
    have nb : ∀ c ∈ [z, TI, TO, i1, i2], b ≠ c := fun c hc q => by have := (hf c hc).1; rw [← q, hqy] at this; cases this
    have S : ZipSep2 z TI TO i1 i2 [i1, a] [i2, b] :=
      { TIz := D.TIz, TOz := D.TOz, TITO := D.TITO, TIi1 := D.TIi1, mem1 := by simp, zf1 := by simp [D.i1z.symm, (na z (by simp)).symm], Tf1 := by simp [D.Ti1, (na TO (by simp)).symm],
        TIi2 := D.TIi2, mem2 := by simp, zf2 := by simp [D.i2z.symm, (nb z (by simp)).symm], Tf2 := by simp [D.Ti2, (nb TO (by simp)).symm], sep1_2 := by simp [D.i12, (nb i1 (by simp)).symm], sep2_1 := by simp [D.i12.symm, (na i2 (by simp)).symm] }
    have hh : X.A.in1.handled = none := I.ok.hd hc
    have l1 : i < its.toArray.size := by rw [List.size_toArray, ← rv.length]; exact (List.getElem?_eq_some_iff.mp hx).1
    have l2 : i < its2.toArray.size := by rw [List.size_toArray, ← rv2.length]; exact (List.getElem?_eq_some_iff.mp hy).1
    refine wpAny_pyNext_zipD2_item S (Draws.list hh i1 a (na i1 (by simp)) its.toArray) (Draws.tuple hh i2 b (nb i2 (by simp)) its2.toArray) hz hTI hTO ⟨h1, p.isList⟩ ⟨h2, show s.heap.IsTuple b its2.toArray from p2⟩ l1 l2
      fun w1 w2 h' tk P1 P2 z' TO' st1 st2 hT hsz hk => ?_
    have e1 : w1 = u := by
      have q : its[i]? = some w1 := by simpa using P1
      rw [hu] at q; exact (Option.some.inj q).symm
    have e2 : w2 = u2 := by
      have q : its2[i]? = some w2 := by simpa using P2
      rw [hu2] at q; exact (Option.some.inj q).symm
    subst e1 e2
    refine ⟨_, rfl, wpAny_letOwnedTupleGo_zip (s := { s with heap := h', toks := tk }) z' fun h'' z'' sb => ?_⟩
    have hT2 : h''.get? s.heap.objs.size = some { cls := .type "tuple", data := .seq #[w1, w2] } := (sb.2 _ (Nat.ne_of_gt hzl)).trans hT
    have new : ObjOk X.prog X.w (upd H s.heap.objs.size (.tup [x, y])) h'' s.heap.objs.size (.tup [x, y]) :=
      ⟨by show 2 ≤ sizeLine; decide, [w1, w2], .cons ru (.cons ru2 .nil), ⟨_, hT2, rfl, _, rfl⟩⟩
    have I1 : Inv X pins σ (upd H s.heap.objs.size (.tup [x, y])) { s with heap := h'', toks := tk } :=
      I.turnedNew (t' := tk) (ch := [z, TI, TO, i1, i2]) (fun c o hb q => (sb.2 c (fun q' => hb (by simp [q']))).trans (hk c o (fun q' => hb (by simp [q'])) (fun q' => hb (by simp [q'])) (fun q' => hb (by simp [q'])) (fun q' => hb (by simp [q'])) q)) hf (Nat.le_refl _) new
    refine ⟨.ref s.heap.objs.size, _, I1, rfl, ⟨_, x, y, rfl, I.hok.fresh (Nat.le_refl _), rfl, fun l hl => by rw [hqx] at hl; cases hl; exact hx, fun l hl => by rw [hqy] at hl; cases hl; exact hy⟩, ⟨z'', ?_, ⟨w1, w2, ?_⟩, ?_, ?_⟩, fun c hcm => ?_⟩
    · exact (sb.2 _ D.TIz).trans (hk _ _ D.TIz D.TITO D.TIi1 D.TIi2 hTI)
    · exact (sb.2 _ D.TOz).trans TO'
    · exact st1.1.at fun o q => (sb.2 _ D.i1z).trans q
    · exact st2.1.at fun o q => (sb.2 _ D.i2z).trans q
    · have hlt : c < s.heap.objs.size := by
        have e' : c = z ∨ c = TI ∨ c = TO ∨ c = i1 ∨ c = i2 := by simpa using hcm
        rcases e' with q | q | q | q | q
        · rw [q]; exact hzl
        · rw [q]; exact Heap.lt_size hTI
        · rw [q]; exact Heap.lt_size hTO
        · rw [q]; obtain ⟨_, e1, _⟩ := h1; exact Heap.lt_size e1
        · rw [q]; obtain ⟨_, e2, _⟩ := h2; exact Heap.lt_size e2
      rw [upd_ne (Nat.ne_of_lt hlt)]
      exact (hf c hcm).1
  done := by
    intro X hP hw hK hc i pins s σ H E I hf st hg
    subst hP hw hK
    obtain ⟨hz, hTI, ⟨x0, y0, hTO⟩, h1, h2⟩ := st
    obtain ⟨xs, ys, hqx, hqy, hle1, hle2, hend⟩ := hg
    obtain ⟨its, rv, p, _⟩ := I.list (SqL.of (K := X.K) hqx)
    obtain ⟨its2, rv2, p2, _⟩ := I.tuple (SqT.of (K := X.K) hqy)
    have l1 := rv.length
    have l2 := rv2.length
    have na : ∀ c ∈ [z, TI, TO, i1, i2], a ≠ c := fun c hc q => by have := (hf c hc).1; rw [← q, hqx] at this; cases this
    have nb : ∀ c ∈ [z, TI, TO, i1, i2], b ≠ c := fun c hc q => by have := (hf c hc).1; rw [← q, hqy] at this; cases this
    have S : ZipSep2 z TI TO i1 i2 [i1, a] [i2, b] :=
      { TIz := D.TIz, TOz := D.TOz, TITO := D.TITO, TIi1 := D.TIi1, mem1 := by simp, zf1 := by simp [D.i1z.symm, (na z (by simp)).symm], Tf1 := by simp [D.Ti1, (na TO (by simp)).symm],
        TIi2 := D.TIi2, mem2 := by simp, zf2 := by simp [D.i2z.symm, (nb z (by simp)).symm], Tf2 := by simp [D.Ti2, (nb TO (by simp)).symm], sep1_2 := by simp [D.i12, (nb i1 (by simp)).symm], sep2_1 := by simp [D.i12.symm, (na i2 (by simp)).symm] }
    have hh : X.A.in1.handled = none := I.ok.hd hc
    exact wpAny_pyNext_zipD2_end S (Draws.list hh i1 a (na i1 (by simp)) its.toArray) (Draws.tuple hh i2 b (nb i2 (by simp)) its2.toArray) hz hTI hTO ⟨h1, p.isList⟩ ⟨h2, show s.heap.IsTuple b its2.toArray from p2⟩
      (by rw [List.size_toArray]; omega) (by rw [List.size_toArray]; omega) (by rw [List.size_toArray, List.size_toArray]; omega)
      fun h' tk hk => ⟨rfl, I.turnedL (t' := tk) (ch := [z, TI, TO, i1, i2]) (fun c o hb q =>
      hk c o (fun q' => hb (by simp [q'])) (fun q' => hb (by simp [q'])) (fun q' => hb (by simp [q'])) (fun q' => hb (by simp [q'])) q) hf⟩
  self := fun A i s Q E st h => wpAny_pyIter_zip st.1 h
def iZipM (ta : TA) : TI := fun σ H R => ta σ H fun vs H1 => ∃ a b xs ys, vs = [.ref a, .ref b] ∧ H1 a = some (.lst xs) ∧ H1 b = some (.tup ys) ∧ R (ItzM a b) H1
theorem pi_zipM {X : Cx} {e e2 : Expr} {ta : TA} {p pos tpos : Pos} {elts : List Expr} {kk : Nat} (hg : Gl X "zip") (hm : X.mg "zip" = none) (ha : PA X [e, e2] ta)
    (hs : starEach [e, e2] X.env = (false, eval e X.env) :: starEach [e2] X.env := by rfl) (hpl : (backTo pos (starEach [e2] X.env)).any (·.1) = false := by rfl) :
    PI X (.Tuple elts kk tpos) (.Call (.Name "zip" p) [e, e2] [] pos) (iZipM ta) := by
  refine ⟨fun pins s σ H R I h => ?_⟩
  refine Call_ (ld_blt I hg hm PyProof.Rows.boot_zip (PyProof.Rows.callWith_type1 (thn (ha.run pos pins s σ H _ I h) fun us s1 ⟨vs, H1, I1, r1, q1⟩ => ?_) hs hpl))
  obtain ⟨a, b, xs, ys, ex, hqx, hqy, q⟩ := q1
  subst ex
  cases r1 with
  | cons r rr =>
    cases rr with
    | cons r' rr =>
      cases rr
      cases r
      cases r'
      have fresh5 : ∀ c, c ∈ [s1.heap.objs.size + 4, s1.heap.objs.size + 2, s1.heap.objs.size + 3, s1.heap.objs.size, s1.heap.objs.size + 1] → FpOk X pins H1 c := fun c hcm => by
        have e' : c = s1.heap.objs.size + 4 ∨ c = s1.heap.objs.size + 2 ∨ c = s1.heap.objs.size + 3 ∨ c = s1.heap.objs.size ∨ c = s1.heap.objs.size + 1 := by simpa using hcm
        have hle : s1.heap.objs.size ≤ c := by
          rcases e' with z | z | z | z | z
          · rw [z]; exact Nat.le_add_right _ _
          · rw [z]; exact Nat.le_add_right _ _
          · rw [z]; exact Nat.le_add_right _ _
          · rw [z]; exact Nat.le_refl _
          · rw [z]; exact Nat.le_add_right _ _
        exact I1.fpOk hle (I1.hok.fresh hle)
      obtain ⟨its, rv, p1, _⟩ := I1.list (SqL.of (K := X.K) hqx)
      obtain ⟨its2, rv2, p2, _⟩ := I1.tuple (SqT.of (K := X.K) hqy)
      refine zip_begins2 (begins_list a its.toArray) (begins_tuple b its2.toArray) p1.isList (show s1.heap.IsTuple b its2.toArray from p2) fun h' hz hTI hTO h1 h2 hsz hk => wpAny_pyIter_zip hz ?_
      have I2 : Inv X pins σ H1 { s1 with heap := h' } := I1.kept (t' := s1.toks) hk
      have D : MSep (s1.heap.objs.size + 4) (s1.heap.objs.size + 2) (s1.heap.objs.size + 3) s1.heap.objs.size (s1.heap.objs.size + 1) := by
        generalize s1.heap.objs.size = N
        exact ⟨show (N + 2 : Nat) ≠ N + 4 by omega, show (N + 3 : Nat) ≠ N + 4 by omega, show (N + 2 : Nat) ≠ N + 3 by omega, show (N + 2 : Nat) ≠ N by omega, show (N + 2 : Nat) ≠ N + 1 by omega, show (N : Nat) ≠ N + 4 by omega, show (N + 1 : Nat) ≠ N + 4 by omega, show (N + 3 : Nat) ≠ N by omega, show (N + 3 : Nat) ≠ N + 1 by omega, show (N : Nat) ≠ N + 1 by omega⟩
      exact ⟨s1.heap.objs.size + 4, [s1.heap.objs.size + 4, s1.heap.objs.size + 2, s1.heap.objs.size + 3, s1.heap.objs.size, s1.heap.objs.size + 1], _, _, H1, rfl, I2, turn_zipM D, ⟨hz, hTI, ⟨_, _, hTO⟩, ⟨_, h1, rfl, rfl⟩, ⟨_, h2, rfl, rfl⟩⟩, fresh5, q⟩
theorem walk_zipM {a b : Addr} {xs ys : List V} (hl : xs.length = ys.length) : L2.Walk (ItzM a b) xs.length (fun H => H a = some (.lst xs) ∧ H b = some (.tup ys)) (YPair (fun i => xs[i]?) (fun i => ys[i]?)) := by
  refine ⟨fun i _ hi q => ?_, fun _ q => ⟨xs, ys, q.1, q.2, Nat.le_refl _, by omega, .inl rfl⟩, fun i H v H' _ q y => ?_⟩
  · have h2 : i < ys.length := by omega
    exact ⟨xs, ys, xs[i], ys[i], q.1, q.2, by simp [hi], by simp [h2]⟩
  · obtain ⟨T, x, z, h1, h2, h3, h4, h5⟩ := y
    exact ⟨T, x, z, h1, h2, h3, h4 xs q.1, h5 ys q.2⟩
end EL

set_option maxHeartbeats 4000000
namespace EL
open PySem PySem.Spec PyProof.Rows L2
/-! ### set(list): whatever the loop over its items makes of the new set -/
abbrev emptyS (w : World) : Obj := { cls := .type "set", dict := none, data := .set #[] 0 (.fresh 0 0 (!w.params.followText "set-order")) }
abbrev litO (l : Addr) : Obj := { cls := .type "list_iterator", data := .fields #[.ref l, .int 0 0] }
section
variable {P : Program} {w : World} {A : Around} {E : Value → Shared → Prop} {s : Shared}
/-- what the loop is asked: from the new set at N and the iterator at N + 1 it comes to its end with Good of the set -/
def LoopOk (P : Program) (w : World) (A : Around) (s : Shared) (l : Addr) (Good : Heap → Prop) : Prop :=
  ∀ (R : Result → Shared → Prop), (∀ s2 : Shared, s2.gens = s.gens → s2.drawn = s.drawn → s2.os = s.os → Good s2.heap → (∀ b o, s.heap.get? b = some o → s2.heap.get? b = some o) → R (.ok (.ret .none)) s2) →
    codeAny (model P w) A (.builtin "set.update.loop" ⟨[.ref s.heap.objs.size, .ref (s.heap.push (emptyS w)).objs.size], []⟩) R
      { s with heap := (s.heap.push (emptyS w)).push (litO l) }
set_option maxHeartbeats 6400000 in
theorem call_set_by {l : Addr} {items : Array Value} {Q : Value → Shared → Prop} (Good : Heap → Prop) (hl : s.heap.IsList l items) (loop : LoopOk P w A.in1.in1 s l Good)
    (h : ∀ (g : Heap) (tk : Nat), Good g → (∀ b o, s.heap.get? b = some o → g.get? b = some o) → Q (.ref s.heap.objs.size) { s with heap := g, toks := tk }) :
    wpAny (model P w) A (call (.type "set") [.ref l]) Q E s := by
  obtain ⟨c, tl, hmro⟩ := F.called_set.mro
  have m1 := F.called_set.made; have m2 := F.called_set.sub; have m3 := F.called_set.notType; have m4 := F.called_set.canCreate; have m5 := F.typeCall_set_1 (.ref l)
  refine wpAny_call (codeAny_of_tree (show wpAny _ _ (callAny (.type "set") _) _ _ _ from wpAny_pure ⟨Code.quiet_builtin _ (by decide +kernel), codeAny_builtin F.entry_type_call ?_⟩))
  rw [Around.under_plain (weight_type_call_type "set" [.ref l] []) rfl]
  repeat (any_goals (first | assumption | wp_step))
  have at0 : (s.heap.push (emptyS w)).get? s.heap.objs.size = some (emptyS w) := Heap.get?_push_size _ rfl
  refine codeAny_mono (code_set_led1 (.ref l) (E := E) (Q₁ := fun v s1 => v = .ref s.heap.objs.size ∧ s1 = { s with heap := s.heap.push (emptyS w) }) ⟨rfl, rfl⟩) fun r s1 hr => ?_
  rcases r with er | fl
  · exact hr
  cases fl with
  | ret v =>
    obtain ⟨rfl, rfl⟩ := hr
    have ty : Shared.TypeIs { s with heap := s.heap.push (emptyS w) } (.ref s.heap.objs.size) "set" := ⟨_, at0, rfl⟩
    have m6 := F.called_set.init.lookup
    have m7 := F.called_set.init.bind (.ref s.heap.objs.size)
    repeat (any_goals (first | assumption | wp_step))
    refine codeAny_mono (codeAny_call_builtin (R := wants (fun v s2 => v = .none ∧ ∃ g tk, s2 = { s with heap := g, toks := tk } ∧ Good g ∧ (∀ b o, s.heap.get? b = some o → g.get? b = some o)) E) F.called_set.init.plain F.entry_set_init (check_set_init_1 ty ?_)) fun r2 s2 hr2 => ?_
    · obtain ⟨⟨oc, od, odt, osl⟩, hol, hcl, nl, hdl⟩ := hl
      replace hcl : oc = .type "list" := hcl
      replace hdl : odt = .seq items nl := hdl
      subst hcl hdl
      have at1 : (s.heap.push (emptyS w)).get? l = some { cls := .type "list", dict := od, data := .seq items nl, slots := osl } := Heap.get?_push_of_some _ hol
      have isl : (s.heap.push (emptyS w)).IsList l items := ⟨_, at1, rfl, nl, rfl⟩
      have q1 := F.sub_list_set; have q2 := F.sub_list_frozenset
      have q3 : (Value.type "list" == Value.type "dict") = false := by decide
      unfold Builtin.«set.__init__» noKeywords Builtin.Frozenset.updateFrom
      generalize hPI : pyIter = PI
      wp_walk
      subst hPI
      refine wpAny_pyIter_list isl (wpAny_bind (wpAny_runValue ?_))
      refine loop _ fun s2 e1 e2 e3 good keep => ?_
      obtain ⟨g, gs, dr, tk, os⟩ := s2
      cases e1; cases e2; cases e3
      show wpAny _ _ _ _ _ _
      exact wpAny_pure (wpAny_pure ⟨rfl, g, tk, rfl, good, keep⟩)
    · rcases r2 with er | fl2
      · exact hr2
      cases fl2 with
      | ret v =>
        obtain ⟨rfl, g, tk, rfl, good, keep⟩ := hr2
        repeat (any_goals (first | assumption | wp_step))
        exact h _ _ good keep
      | _ => exact hr2.elim
  | _ => exact hr.elim
/-- the items of the list are walked: the turns of LoopOk -/
theorem loop_walk {l : Addr} {items : Array Value} (hh : A.handled = none) (hl : s.heap.IsList l items) :
    ∃ fp wr G St, WalksS P w A.in1 (s.heap.push (emptyS w)).objs.size fp wr G items.size (fun i v => items[i]? = some v) St ∧ s.heap.objs.size ∉ fp ∧ (∀ b ∈ wr, s.heap.objs.size < b) ∧
      St 0 { s with heap := (s.heap.push (emptyS w)).push (litO l) } ∧ ∀ g g', G g g' → g' = g := by
  obtain ⟨o, ho, _⟩ := id hl
  have hlt : l < s.heap.objs.size := Heap.lt_size ho
  have sz : (s.heap.push (emptyS w)).objs.size = s.heap.objs.size + 1 := Heap.size_push ..
  have isl : (s.heap.push (emptyS w)).IsList l items := hl.push _
  have ne : l ≠ (s.heap.push (emptyS w)).objs.size := by rw [sz]; exact Nat.ne_of_lt (Nat.lt_succ_of_lt hlt)
  refine ⟨_, _, _, _, (Walks.list (prog := P) (w := w) (A := A.in1) hh _ l ne items).toS, ?_, ?_, ⟨⟨_, Heap.get?_push_size _ rfl, rfl, rfl⟩, isl.push _⟩, fun g g' e => e⟩
  · intro hm
    have hm' : s.heap.objs.size = (s.heap.push (emptyS w)).objs.size ∨ s.heap.objs.size = l := by simpa using hm
    rcases hm' with e | e
    · rw [sz] at e; exact Nat.succ_ne_self _ e.symm
    · exact Nat.ne_of_gt hlt e
  · intro b hb
    have e : b = (s.heap.push (emptyS w)).objs.size := by simpa using hb
    rw [e, sz]; exact Nat.lt_succ_self _
end
/-! ### set(list of ints) -/
theorem loop_ints {P : Program} {w : World} {A : Around} {s : Shared} {l : Addr} {items : Array Value} {ns : List Int} (hh : A.handled = none) (hl : s.heap.IsList l items) (hi : IntsAre items.toList ns) (hb : ns.length + 1 < scanBound) :
    LoopOk P w A s l (fun g => ∃ c, c ≤ ns.length ∧ SetR w g s.heap.objs.size (fun j => decide (j ∈ ns)) c) := by
  intro R hR
  obtain ⟨fp, wr, G, St, W, nS, nW, st0, hG⟩ := loop_walk (P := P) (w := w) (A := A) hh hl
  have len : items.size = ns.length := by have q := IntsAre.length hi; rwa [Array.length_toList] at q
  have val : ∀ (i : Nat) (v : Value), items[i]? = some v → ∃ k t, ns[i]? = some k ∧ v = .int k t := fun i v e => by
    have hlt : i < ns.length := by rw [← len]; exact (Array.getElem?_eq_some_iff.mp e).1
    obtain ⟨t, q⟩ := PyProof.Rows.IntsAre.int_at hi i v (by rw [Array.getElem?_toList]; exact e)
    exact ⟨ns[i], t, List.getElem?_eq_getElem hlt, by rw [q, List.getD_eq_getElem?_getD, List.getElem?_eq_getElem hlt]; rfl⟩
  have at0 : ((s.heap.push (emptyS w)).push (litO l)).get? s.heap.objs.size = some (emptyS w) := Heap.get?_push_of_some _ (Heap.get?_push_size _ rfl)
  refine set_update_ints W s.heap.objs.size nS ns len hb val (items.size - 0) 0 _ (by omega) (Nat.zero_le _) st0 ⟨0, Nat.le_refl 0, setR_new_at at0⟩ fun s2 c hm hc hS => ?_
  refine hR s2 (hG _ _ hm.gens) hm.drawn hm.os ⟨c, by omega, hS⟩ fun b o e => ?_
  have hb0 := Heap.lt_size e
  refine hm.heap b o (fun z => ?_) (Heap.get?_push_of_some _ (Heap.get?_push_of_some _ e))
  rcases List.mem_cons.mp z with z | z
  · rw [z] at hb0; exact Nat.lt_irrefl _ hb0
  · exact Nat.lt_irrefl _ (Nat.lt_trans hb0 (nW b z))
section
variable {X : Cx}
/-- set(xs), xs a list of ints -/
def rSetL (K : PySem.W.Frag) (w : World) : List V → Hp → VK → Prop := fun xs H Q => ∃ (a : Addr) (ns : List Int), xs = [V.ref a] ∧ SqL K H a (ns.map V.int) ∧ ns.length ≤ 1000 ∧
  ∀ p c, H p = none → c ≤ ns.length → Q (.ref p) (upd H p (SetO w p (fun j => decide (j ∈ ns)) c))
theorem cr_setL (K : PySem.W.Frag) (eK : X.K = K := by rfl) (hc : X.calm = true) : CallR X (.type "set") (rSetL K X.w) := by
  subst eK
  intro pins s σ H vs us Q I r h
  obtain ⟨a, ns, rfl, hs, hn, q⟩ := h
  obtain ⟨its, rv, hl, _⟩ := I.list hs
  rw [Vals.ref1 r]
  refine call_set_by _ hl.isList (loop_ints (I.ok.hd hc) hl.isList rv.ints (Nat.lt_of_le_of_lt (Nat.add_le_add_right hn 1) (by decide))) fun g tk ⟨c, hc', hS⟩ keep => ?_
  exact ⟨.ref s.heap.objs.size, _, I.laid (t' := tk) keep (Nat.le_refl _) (setO_new hS), rfl, q _ c (I.hok.fresh (Nat.le_refl _)) hc'⟩
end
/-! ### sets of texts -/
def keyT (e : Int × Value) : Str := match e.2 with
  | .str x _ => x
  | _ => Str.empty
/-- the payload D of a set holds the texts l, each once, and can be walked -/
structure TxSet (P : Program) (w : World) (D : Froz.SD) (l : List Str) : Prop where
  tx : Froz.TxOk P w D l
  pk : (D.1.toList.map keyT).Perm l
  good : ∀ e ∈ D.1.toList, ∃ x t, e.2 = Value.str x t
  nd : l.Nodup
  ris : Ris D.2.2.place.toList
  led : w.params.followText "set-order" = true ∨ D.2.2.led = true
section
variable {P : Program} {w : World}
theorem txs_nil : TxSet P w (#[], 0, .fresh 0 0 (!w.params.followText "set-order")) [] := by
  refine ⟨Froz.TxOk.nil rfl, .nil, (fun e he => by simp at he), List.nodup_nil, .nil, ?_⟩
  rcases Bool.eq_false_or_eq_true (w.params.followText "set-order") with e | e
  · exact .inl e
  · exact .inr (by show (!w.params.followText "set-order") = true; rw [e]; rfl)
/-- the payload behind the adding of a new text -/
theorem txs_add {D : Froz.SD} {l : List Str} {k : Str} (u : Tok) (T : TxSet P w D l) (hk : k ∉ l) : TxSet P w (Froz.addTx (hashStr w k) (.str k u) D) (k :: l) := by
  obtain ⟨es, ep, t⟩ := D
  have tx := Froz.add_ok (P := P) (w := w) (k := k) u T.tx
  have p1 := layNew_perm t es (hashStr w k) (.str k u)
  have r1 := layNew_ris t es (hashStr w k) (.str k u) T.ris
  have l1 := layNew_led t es (hashStr w k) (.str k u)
  rw [Array.toList_push] at p1
  -- the table ahead of the growth
  have big : ∀ t2 : SetTable, Ris t2.place.toList → t2.led = t.led → ∀ b : Bool,
      (Froz.tailTx ep (layNew t es (hashStr w k) (.str k u)).1 t2 b).1.toList.Perm (es.toList ++ [(hashStr w k, Value.str k u)]) ∧ Ris (Froz.tailTx ep (layNew t es (hashStr w k) (.str k u)).1 t2 b).2.2.place.toList ∧
        (Froz.tailTx ep (layNew t es (hashStr w k) (.str k u)).1 t2 b).2.2.led = t.led := fun t2 hr hl b => by
    unfold Froz.tailTx
    split
    · exact ⟨(relayAll_perm t2 _ _).trans p1, relayAll_ris t2 _ _, (relayAll_led t2 _ _).trans hl⟩
    · exact ⟨p1, hr, hl⟩
  have all : (Froz.addTx (hashStr w k) (.str k u) (es, ep, t)).1.toList.Perm (es.toList ++ [(hashStr w k, Value.str k u)]) ∧ Ris (Froz.addTx (hashStr w k) (.str k u) (es, ep, t)).2.2.place.toList ∧
      (Froz.addTx (hashStr w k) (.str k u) (es, ep, t)).2.2.led = t.led := by
    unfold Froz.addTx
    refine big _ ?_ ?_ _
    · dsimp only; split <;> exact r1
    · dsimp only; split <;> exact l1
  obtain ⟨a1, a2, a3⟩ := all
  refine ⟨tx, ?_, fun e he => ?_, List.nodup_cons.mpr ⟨hk, T.nd⟩, a2, T.led.imp id fun z => by rw [a3]; exact z⟩
  · refine (a1.map keyT).trans ?_
    rw [List.map_append]
    exact (List.perm_append_singleton _ _).trans (T.pk.cons k)
  · rcases List.mem_append.mp (a1.mem_iff.mp he) with z | z
    · exact T.good e z
    · rw [List.mem_singleton.mp z]; exact ⟨k, u, rfl⟩
variable {A : Around} {E : Value → Shared → Prop} {s : Shared}
/-- a text that is there already: nothing is done -/
theorem txs_again {a : Addr} {D : Froz.SD} {l : List Str} {k : Str} {u : Tok} {Q : Bool → Shared → Prop} (ho : s.heap.get? a = some (Froz.sObj "set" D)) (T : TxSet P w D l) (hk : k ∈ l) (hb : l.length < scanBound) (h : Q false s) :
    wpAny (model P w) A (setAddHashed a (.str k u) (hashStr w k)) Q E s := by
  obtain ⟨es, ep, t⟩ := D
  have hd : (Froz.sObj "set" (es, ep, t)).data = .set es ep t := rfl
  have hb0 : es.size < scanBound := by have q : es.size = l.length := T.tx.sz; omega
  unfold setAddHashed setAddHashedIn
  refine wpAny_holding (wpAny_bind (wpAny_setState_of ho hd T.tx.fit ?_))
  dsimp only
  rw [byScan_of (show (Value.str k u).scannable = true from rfl) hb0 T.tx.el]
  simp only [↓reduceIte]
  unfold setAddByScan
  refine wpAny_bind (wpAny_bind (wpAny_rule (wpAny_bind (wpAny_setScan_of (knd := strKind P w) (k := k) (Froz.is_str k u) ho hd T.tx.fit T.tx.el ?_))))
  obtain ⟨e, he, q⟩ := (T.tx.mem k).mp hk
  cases f : List.findIdx? (fun e => (strKind P w).is k e.2) es.toList with
  | none =>
    have z := List.findIdx?_eq_none_iff.mp f e he
    rw [q] at z; cases z
  | some j => dsimp only; exact wpAny_pure (wpAny_pure h)
/-- the loop of set(list of texts) -/
theorem loop_strs_from {I : Addr} {fp wr : List Addr} {G : Array GenState → Array GenState → Prop} {n : Nat} {Pv : Nat → Value → Prop} {St : Nat → Shared → Prop} {R : Result → Shared → Prop} (W : WalksS P w A.in1 I fp wr G n Pv St) (S : Addr) (nS : S ∉ fp) (ss : List Str)
    (hn : n = ss.length) (hb : ss.length + 1 < scanBound) (val : ∀ i v, Pv i v → ∃ x t, ss[i]? = some x ∧ v = .str x t) (fin : ∀ s' D l, Moved (S :: wr) G s s' → s'.heap.get? S = some (Froz.sObj "set" D) → TxSet P w D l → (∀ x, x ∈ l ↔ x ∈ ss) → R (.ok (.ret .none)) s') :
    ∀ (m i : Nat) (r : Shared), n - i = m → i ≤ n → Moved (S :: wr) G s r → St i r → (∃ D l, r.heap.get? S = some (Froz.sObj "set" D) ∧ TxSet P w D l ∧ (∀ x, x ∈ l ↔ x ∈ ss.take i) ∧ l.length ≤ i) →
      codeAny (model P w) A (.builtin "set.update.loop" ⟨[.ref S, .ref I], []⟩) R r := by
  have nW : S ∉ wr := fun z => nS (W.sub _ z)
  have up : ∀ b ∈ wr, b ∈ S :: wr := fun b z => List.mem_cons_of_mem _ z
  intro m
  induction m with
  | zero =>
    intro i r em hi mv st ⟨D, l, ho, T, mem, hlen⟩
    have ei : i = n := by omega
    subst ei
    refine codeAny_builtin F.entry_set_update_loop ?_
    rw [Around.under_plainId F.plain_set_update_loop _]
    refine (show wpAny _ A.in1 (pyNext (.ref I) >>= _) _ _ r from wpAny_bind (W.done r _ _ st fun r' mv' => ?_))
    refine (show wpAny _ A.in1 (ret Value.none) _ _ r' from wpAny_pure (fin r' D l (Moved.trans W.gtrans mv (mv'.mono up)) (mv'.heap S _ nW ho) T fun x => ?_))
    rw [mem x, List.take_of_length_le (by omega)]
  | succ m ih =>
    intro i r em hi mv st ⟨D, l, ho, T, mem, hlen⟩
    have hlt : i < n := by omega
    refine codeAny_builtin F.entry_set_update_loop ?_
    rw [Around.under_plainId F.plain_set_update_loop _]
    refine (show wpAny _ A.in1 (pyNext (.ref I) >>= _) _ _ r from wpAny_bind (W.item i r _ _ hlt st fun v r' hv st' mv' => ?_))
    obtain ⟨x, t, hx, rfl⟩ := val i v hv
    have ho' := mv'.heap S _ nW ho
    have mv2 := Moved.trans W.gtrans mv (mv'.mono up)
    refine (show wpAny _ A.in1 (holding [Value.str x t] (setAdd S (.str x t)) >>= _) _ _ r' from wpAny_bind (wpAny_holding ?_))
    unfold setAdd
    refine wpAny_holding (wpAny_bind ((strKind P w).pyHash (k := x) (Froz.is_str x t) ?_))
    have tk1 : ss.take (i + 1) = ss.take i ++ [x] := take_succ hx
    by_cases hk : x ∈ l
    · refine txs_again (s := { r' with toks := r'.toks + 1 }) ho' T hk (by omega) ?_
      refine wpAny_pure ⟨plainId_quiet F.plain_set_update_loop _, ih (i + 1) _ (by omega) hlt (mv2.then_heap (Nat.le_succ _) fun b o _ e => e) (W.frame _ r' _ _ st' (Nat.le_succ _) fun b hb o e => e) ⟨D, l, ho', T, fun y => ?_, by omega⟩⟩
      rw [mem y, tk1, List.mem_append, List.mem_singleton]
      exact ⟨.inl, fun z => z.elim id fun e => by rw [e]; exact (mem x).mp hk⟩
    · refine Froz.add_x (s := { r' with toks := r'.toks + 1 }) ho' T.tx hk (by omega) ?_
      have ho2 : (r'.heap.update S (fun _ => Froz.sObj "set" (Froz.addTx (hashStr w x) (.str x t) D))).get? S = some (Froz.sObj "set" (Froz.addTx (hashStr w x) (.str x t) D)) := Froz.get_upd _ ho' rfl
      have oth : ∀ b, b ≠ S → (r'.heap.update S (fun _ => Froz.sObj "set" (Froz.addTx (hashStr w x) (.str x t) D))).get? b = r'.heap.get? b := fun b hb => Heap.get?_update_other _ _ (Ne.symm hb)
      refine wpAny_pure ⟨plainId_quiet F.plain_set_update_loop _, ih (i + 1) _ (by omega) hlt (mv2.then_heap (Nat.le_succ _) fun b o hb e => ?_) (W.frame _ r' _ _ st' (Nat.le_succ _) fun b hb o e => ?_) ⟨_, x :: l, ho2, txs_add t T hk, fun y => ?_, by simp; omega⟩⟩
      · rw [oth b fun z => hb (by rw [z]; exact List.mem_cons_self)]; exact e
      · rw [oth b fun z => nS (by rw [← z]; exact hb)]; exact e
      · rw [tk1, List.mem_append, List.mem_singleton, List.mem_cons, mem y]
        exact Or.comm
theorem loop_strs {l : Addr} {items : Array Value} {ss : List Str} (hh : A.handled = none) (hl : s.heap.IsList l items) (hi : StrsAre items.toList ss) (hb : ss.length + 1 < scanBound) :
    LoopOk P w A s l (fun g => ∃ D l', g.get? s.heap.objs.size = some (Froz.sObj "set" D) ∧ TxSet P w D l' ∧ ∀ x, x ∈ l' ↔ x ∈ ss) := by
  intro R hR
  obtain ⟨fp, wr, G, St, W, nS, nW, st0, hG⟩ := loop_walk (P := P) (w := w) (A := A) hh hl
  have len : items.size = ss.length := by have q := StrsAre.length hi; rwa [Array.length_toList] at q
  have val : ∀ (i : Nat) (v : Value), items[i]? = some v → ∃ x t, ss[i]? = some x ∧ v = .str x t := fun i v e => by
    have hlt : i < ss.length := by rw [← len]; exact (Array.getElem?_eq_some_iff.mp e).1
    obtain ⟨t, q⟩ := SS.strs_at hi i v (by rw [Array.getElem?_toList]; exact e)
    exact ⟨ss[i], t, List.getElem?_eq_getElem hlt, by rw [q, List.getD_eq_getElem?_getD, List.getElem?_eq_getElem hlt]; rfl⟩
  have at0 : ((s.heap.push (emptyS w)).push (litO l)).get? s.heap.objs.size = some (emptyS w) := Heap.get?_push_of_some _ (Heap.get?_push_size _ rfl)
  refine loop_strs_from (s := { s with heap := (s.heap.push (emptyS w)).push (litO l) }) W s.heap.objs.size nS ss len hb val (fun s2 D l' hm ho T mem => ?_) (items.size - 0) 0 _ (by omega) (Nat.zero_le _) ⟨fun b o _ e => e, W.grefl _, rfl, rfl, Nat.le_refl _⟩ st0 ⟨(#[], 0, .fresh 0 0 (!w.params.followText "set-order")), [], at0, txs_nil, fun x => by simp, Nat.le_refl 0⟩
  refine hR s2 (hG _ _ hm.gens) hm.drawn hm.os ⟨D, l', ho, T, mem⟩ fun b o e => ?_
  have hb0 := Heap.lt_size e
  refine hm.heap b o (fun z => ?_) (Heap.get?_push_of_some _ (Heap.get?_push_of_some _ e))
  rcases List.mem_cons.mp z with z | z
  · rw [z] at hb0; exact Nat.lt_irrefl _ hb0
  · exact Nat.lt_irrefl _ (Nat.lt_trans hb0 (nW b z))
end
/-- the set of texts at a -/
def SetTx (P : Program) (w : World) (a : Addr) (ss : List Str) : HO := .ext fun h => ∃ D l, h.get? a = some (Froz.sObj "set" D) ∧ TxSet P w D l ∧ ∀ x, x ∈ l ↔ x ∈ ss
theorem setTx_new {w : World} {P : Program} {H : Hp} {h : Heap} {a : Addr} {ss : List Str} (R : ∃ D l, h.get? a = some (Froz.sObj "set" D) ∧ TxSet P w D l ∧ ∀ x, x ∈ l ↔ x ∈ ss) : ObjOk P w H h a (SetTx P w a ss) := by
  have ⟨D, l, ho, _⟩ := R
  exact ⟨R, ⟨_, ho⟩, fun h1 h2 ⟨D, l, e, r⟩ k => ⟨D, l, k _ e, r⟩⟩
section
variable {X : Cx}
/-- set(xs), xs a list of texts -/
def rSetTx (K : PySem.W.Frag) (P : Program) (w : World) : List V → Hp → VK → Prop := fun xs H Q => ∃ (a : Addr) (ss : List Str), xs = [V.ref a] ∧ SqL K H a (ss.map V.str) ∧ ss.length ≤ 60 ∧
  ∀ p, H p = none → Q (.ref p) (upd H p (SetTx P w p ss))
theorem cr_setTx (K : PySem.W.Frag) (eK : X.K = K := by rfl) (hc : X.calm = true) : CallR X (.type "set") (rSetTx K X.prog X.w) := by
  subst eK
  intro pins s σ H vs us Q I r h
  obtain ⟨a, ss, rfl, hs, hn, q⟩ := h
  obtain ⟨its, rv, hl, _⟩ := I.list hs
  rw [Vals.ref1 r]
  refine call_set_by _ hl.isList (loop_strs (I.ok.hd hc) hl.isList rv.strs (Nat.lt_of_le_of_lt (Nat.add_le_add_right hn 1) (by decide))) fun g tk good keep => ?_
  exact ⟨.ref s.heap.objs.size, _, I.laid (t' := tk) keep (Nat.le_refl _) (setTx_new good), rfl, q _ (I.hok.fresh (Nat.le_refl _))⟩
/-- sorted(set of texts) -/
def rSortTx (P : Program) (w : World) : List V → Hp → VK → Prop := fun vs H Q => ∃ (a : Addr) (ss : List Str), vs = [V.ref a] ∧ H a = some (SetTx P w a ss) ∧ ss.length ≤ 60 ∧
  ∀ (ys : List Str) (p : Addr), ys.Nodup → (∀ x, x ∈ ys ↔ x ∈ ss) → sortedS ys = true → H p = none → Q (.ref p) (upd H p (.lst (ys.map V.str)))
theorem nodup_len : ∀ {l ss : List Str}, l.Nodup → (∀ x ∈ l, x ∈ ss) → l.length ≤ ss.length
  | [], ss, _, _ => Nat.zero_le _
  | x :: l, ss, nd, h => by
    obtain ⟨n1, n2⟩ := List.nodup_cons.mp nd
    have hx := h x List.mem_cons_self
    have q := nodup_len (ss := ss.erase x) n2 fun y hy => (List.mem_erase_of_ne fun e => n1 (by rw [← e]; exact hy)).mpr (h y (List.mem_cons_of_mem _ hy))
    rw [List.length_erase_of_mem hx] at q
    have := List.length_pos_of_mem hx
    simp; omega
theorem strs_keys : ∀ {out : List Value}, (∀ v ∈ out, ∃ x t, v = Value.str x t) → StrsAre out (out.map fun v => keyT (0, v))
  | [], _ => .nil
  | v :: r, h => by
    obtain ⟨x, t, rfl⟩ := h v List.mem_cons_self
    exact .cons x t (strs_keys fun u hu => h u (List.mem_cons_of_mem _ hu))
set_option maxHeartbeats 6400000 in
theorem cr_sortTx (hc : X.calm = true) : CallR X (.builtin "sorted") (rSortTx X.prog X.w) := by
  intro pins s σ H vs us Q I r h
  obtain ⟨a, ss, rfl, ha, h60, q⟩ := h
  obtain ⟨⟨⟨es, ep, t⟩, l, ho, T, mem⟩, _⟩ := I.hok a _ ha
  rw [Vals.ref1 r]
  have ll : l.length ≤ ss.length := nodup_len T.nd fun x hx => (mem x).mp hx
  have hb : es.size < scanBound := by have q : es.size = l.length := T.tx.sz; exact Nat.lt_of_le_of_lt (by omega : es.size ≤ 60) (by decide)
  have h1 : X.A.in1.handled = none := I.ok.hd hc
  refine Calls.call_function_entry kind_sorted plain_sorted entry_sorted (args_sorted1 _) ?_
  unfold Builtin.«sorted»
  refine wpAny_bind (m := checkCount "sorted" 1 1 _) (wpAny_pure (wpAny_bind (collect_set (A := X.A.in1) h1 ⟨_, ho, rfl, rfl⟩ T.tx.fit hb T.ris T.led fun s1 out keep sz eg eo pm => ?_)))
  have lo : out.length = l.length := by rw [pm.length_eq, List.length_map, Array.length_toList]; exact T.tx.sz
  have hS : StrsAre out (out.map fun v => keyT (0, v)) := strs_keys fun v hv => by
    obtain ⟨e, he, q⟩ := List.mem_map.mp (pm.mem_iff.mp hv)
    rw [← q]; exact T.good e he
  have pk : (out.map fun v => keyT (0, v)).Perm l := by
    have z := pm.map fun v => keyT (0, v)
    rw [List.map_map] at z
    exact z.trans T.pk
  refine wpAny_bind (wpAny_newList ?_ (by rw [lo, sizeLine_eq]; omega))
  have at1 : (s1.heap.push (seqObj "list" out.toArray 0)).get? s1.heap.objs.size = some (seqObj "list" out.toArray 0) := Heap.get?_push_size _ rfl
  refine wpAny_bind (wpAny_holding (wpAny_call_entry PyProof.Rows.slot_list_sort ⟨_, at1, rfl⟩ PyProof.Rows.entry_list_sort
    (list_sort_treeK strKind_oneLt (s := { s1 with heap := s1.heap.push (seqObj "list" out.toArray 0) }) at1 hS.keysOf (fun v₁ v₂ rest e => keyKind_strs (by rw [← e]; exact hS)) (by rw [lo]; omega) fun st' hp hs => ⟨_, rfl, ?_⟩) (PyProof.Rows.args_list_sort _)))
  obtain ⟨ys, g1, g2, g3⟩ := sorted_out_str hS hp hs
  obtain ⟨e', he'⟩ := PyProof.Rows.sortedHeap_at (vs := out) (out := (arrOf st').map (·.2)) at1
  have py : ys.Perm l := g2.trans pk
  have hlen : (ys.map V.str).length ≤ sizeLine := by rw [List.length_map, py.length_eq]; exact Nat.le_of_lt (small1000 (by omega))
  have hn : H s1.heap.objs.size = none := I.hok.fresh sz
  obtain ⟨G, hG⟩ : ∃ G, G = sortedHeap (s1.heap.push (seqObj "list" out.toArray 0)) s1.heap.objs.size out ((arrOf st').map (·.2)) := ⟨_, rfl⟩
  replace he' : G.get? s1.heap.objs.size = some (seqObj "list" ((arrOf st').map (·.2)) e') := by rw [hG]; exact he'
  have k2 : ∀ b u, s.heap.get? b = some u → G.get? b = some u := fun b u e => by
    have z := keep b u e
    have hlt : b < s1.heap.objs.size := Heap.lt_size z
    rw [hG, PyProof.Rows.sortedHeap_old (Nat.ne_of_lt hlt) (by rw [size_push']; exact Nat.lt_succ_of_lt hlt)]
    exact Heap.get?_push_of_some _ z
  have J : Inv X pins σ (upd H s1.heap.objs.size (.lst (ys.map V.str))) { s with heap := G, gens := s1.gens, drawn := s1.drawn, toks := s1.toks } :=
    I.call (ch := []) (Un.laid k2 sz hn) (I.hok.laid k2 sz ⟨hlen, ((arrOf st').map (·.2)).toList, e', vals_of_strs g1, by rw [Array.toArray_toList]; exact he'⟩) (by rw [eg]; exact I.bare) (fun _ z => nomatch z)
  refine wpAny_pure ⟨_, rfl, .ref s1.heap.objs.size, _, ?_, rfl, q ys _ (py.nodup_iff.mpr T.nd) (fun x => by rw [py.mem_iff, mem x]) g3 hn⟩
  obtain ⟨hp1, gs1, dr1, tk1, os1⟩ := s1
  obtain ⟨hp0, gs0, dr0, tk0, os0⟩ := s
  cases eo
  subst hG
  exact J
/-! ### list.count of texts -/
def rCountS (K : PySem.W.Frag) : V → List V → Hp → VK → Prop := fun x xs H Q => ∃ (p : Addr) (ws : List Str) (k : Str), x = .ref p ∧ xs = [.str k] ∧ SqL K H p (ws.map V.str) ∧ Q (.int (ws.count k : Nat)) H
def eqs (k : Str) (v : Value) : Bool := match v with
  | .str n _ => n == k
  | _ => false
theorem eqs_count {k : Str} : ∀ {us : List Value} {ns : List Str}, StrsAre us ns → us.countP (eqs k) = ns.count k
  | _, _, .nil => rfl
  | _, _, .cons n t r => by
    rw [List.countP_cons, eqs_count r, List.count_cons]
    rfl
theorem eqs_at {k : Str} {t : Tok} {A : Around} {s : Shared} : ∀ {us : List Value} {ns : List Str}, StrsAre us ns → ∀ y ∈ us, SeqAt.EqAt A s y (.str k t) (eqs k y)
  | _, _, .cons n u r, y, hy => by
    rcases List.mem_cons.mp hy with rfl | hy
    · exact eqAt_V (x := .str k) (y := .str n) ⟨_, rfl⟩ ⟨_, rfl⟩ rfl rfl
    · exact eqs_at r y hy
theorem mt_countS (K : PySem.W.Frag) (eK : X.K = K := by rfl) : MtR X "list.count" (rCountS K) := by
  subst eK
  intro pins s σ H x xs v us Q I rx rxs h
  obtain ⟨p, ws, k, rfl, rfl, hs, q⟩ := h
  cases rx
  obtain ⟨u, rfl, t, rfl⟩ := rxs.one
  obtain ⟨its, rv, ⟨⟨cls, dd, dt, sl⟩, n, ho, hc, hdn, hd⟩, _⟩ := I.list hs
  replace hc : cls = .type "list" := hc
  replace hd : dt = .seq its.toArray n := hd
  subst hc hd
  have hi := rv.strs
  refine call_meets PySem.F.slot_list_count ⟨_, ho, rfl⟩ PySem.F.entry_list_count (PySem.F.args_list_count_2 _ _)
    (SeqAt.list_countAt p its.toArray n dd sl (.str k t) (eqs k)) ⟨ho, fun y hy => eqs_at hi y (by simpa using hy), ?_⟩
  refine ⟨.int (ws.count k : Nat), H, I.tok _, ⟨s.toks, ?_⟩, q⟩
  rw [← eqs_count hi]
end
end EL

set_option maxHeartbeats 4000000
namespace EL
open PySem L2
/-! ### slices, sums of tuples: one way out -/
theorem cut_whole {xs : List V} {lo hi : Option Int} (h : HT.sIx xs.length 0 lo = 0 ∧ HT.sIx xs.length xs.length hi = xs.length) : cutV xs lo hi = xs := by
  unfold cutV
  rw [h.1, h.2, List.drop_zero, Nat.sub_zero, List.take_length]
theorem slA_intro {K : PySem.W.Frag} {lo hi : Option Int} {H : Hp} {Q : VK} {a : Addr} {xs : List V} (h : H a = some (.tup xs)) (f : ∀ c H1, Same H H1 → H1 c = some (.tup (cutV xs lo hi)) → Q (.ref c) H1) : rSlA K (.ref a) lo hi H Q :=
  ⟨a, xs, rfl, .of h, fun w => f a H (Same.refl H) (by rw [cut_whole w]; exact h), fun _ p hp => f p _ (Same.new hp) upd_same⟩
theorem catA_intro {K : PySem.W.Frag} {H : Hp} {Q : VK} {a b : Addr} {xs ys : List V} (h : H a = some (.tup xs)) (h2 : H b = some (.tup ys)) (hl : xs.length + ys.length ≤ sizeLine) (f : ∀ c H1, Same H H1 → H1 c = some (.tup (xs ++ ys)) → Q (.ref c) H1) : rCatA K (.ref a) (.ref b) H Q :=
  ⟨a, b, xs, ys, rfl, rfl, .of h, .of h2, hl, fun e => f b H (Same.refl H) (by rw [e]; exact h2), fun _ e => f a H (Same.refl H) (by rw [e, List.append_nil]; exact h), fun _ _ p hp => f p _ (Same.new hp) upd_same⟩
theorem cut_hi (xs : List V) (b : Nat) : cutV xs none (some (b : Int)) = xs.take b := by
  unfold cutV
  rw [HT.sIx_none, HT.sIx_nat, List.drop_zero, Nat.sub_zero]
  by_cases h : b ≤ xs.length
  · rw [Nat.min_eq_left h]
  · rw [Nat.min_eq_right (by omega), List.take_length, List.take_of_length_le (by omega)]
theorem cut_lo (xs : List V) (b : Nat) : cutV xs (some (b : Int)) none = xs.drop b := by
  unfold cutV
  rw [HT.sIx_none, HT.sIx_nat]
  by_cases h : b ≤ xs.length
  · rw [Nat.min_eq_left h, List.take_of_length_le (by rw [List.length_drop]; omega)]
  · rw [Nat.min_eq_right (by omega), Nat.sub_self, List.take_zero, List.drop_of_length_le (by omega)]
theorem cut_neg (xs : List V) (k : Nat) (hk : 0 < k) : cutV xs (some (-(k : Int))) none = xs.drop (xs.length - k) := by
  unfold cutV
  rw [HT.sIx_none]
  have e : HT.sIx xs.length 0 (some (-(k : Int))) = xs.length - k := by
    show (if (-(k : Int)) < 0 then (-(k : Int) + (xs.length : Int)).toNat else min (-(k : Int)).toNat xs.length) = _
    rw [if_pos (by omega)]
    omega
  rw [e, List.take_of_length_le (by rw [List.length_drop]; omega)]
theorem rgV_eq (m : Nat) : rgV 0 (m : Int) = (List.range m).map fun n => V.int (n : Nat) := by
  unfold rgV
  rw [show ((m : Int) - 0).toNat = m by omega]
  exact List.map_congr_left fun n _ => by rw [Int.zero_add]
/-! ### the window -/
def eds (S : Sch) (b : Nat) : Nat := 1 + ((S.steps.take b).filter Stp.isEd).length
def win (S : Sch) (b lag : Nat) : List Nat := (List.range (eds S b)).drop (eds S b - (lag + 1))
theorem win_lt {S : Sch} {b lag n : Nat} (h : n ∈ win S b lag) : n < eds S b := List.mem_range.mp (List.mem_of_mem_drop h)
theorem ed_filter : ∀ (ts : List Stp), (ts.filter Stp.isEd).length = (ts.filterMap Stp.ed?).length
  | [] => rfl
  | t :: r => by
    have ih := ed_filter r
    cases t with
    | ed e =>
      show (Stp.ed e :: r.filter Stp.isEd).length = (e :: r.filterMap Stp.ed?).length
      rw [List.length_cons, List.length_cons, ih]
    | fill i => exact ih
    | sweep i => exact ih
theorem eds_le (S : Sch) (b : Nat) : eds S b ≤ S.every.length := by
  unfold eds Sch.every
  rw [List.length_cons, ed_filter, Nat.add_comm]
  refine Nat.succ_le_succ ?_
  conv => rhs; rw [← List.take_append_drop b S.steps, List.filterMap_append, List.length_append]
  omega
theorem eds_small {S : Sch} (h : S.steps.length ≤ 12) (b : Nat) : eds S b ≤ 13 := by
  have h1 : ((S.steps.take b).filter Stp.isEd).length ≤ (S.steps.take b).length := List.length_filter_le _ _
  rw [List.length_take] at h1
  unfold eds; omega
theorem eds_pos (S : Sch) (b : Nat) : 0 < eds S b := by unfold eds; omega
theorem win_len {S : Sch} {b lag : Nat} : 0 < (win S b lag).length := by
  unfold win
  rw [List.length_drop, List.length_range]
  have := eds_pos S b; omega
theorem win_small {S : Sch} (h : S.steps.length ≤ 12) (b lag : Nat) : (win S b lag).length ≤ 13 := by
  unfold win
  rw [List.length_drop, List.length_range]
  have := eds_small h b; omega
/-- a state of the schedule -/
structure OkEnt (S : Sch) (e : List Int) : Prop where
  asc : Asc e
  lo : ∀ x ∈ e, 0 ≤ x
  hi : ∀ x ∈ e, x < S.width
structure OkSta (S : Sch) (s : Sta) : Prop where
  begun : s.begun ≤ S.steps.length
  due : s.due = true → ∃ t, s.begun ≠ 0 ∧ S.steps[s.begun - 1]? = some t ∧ t.isEd = false
  row : ∀ r, s.row = some r → 0 ≤ r ∧ r < S.width
  len : s.ents.length = S.first.length
  ents : ∀ e ∈ s.ents, OkEnt S e
theorem asc_bound : ∀ {l : List Int} {a b : Int}, Asc l → (∀ x ∈ l, a ≤ x) → (∀ x ∈ l, x < b) → (l.length : Int) ≤ max (b - a) 0
  | [], _, _, _, _, _ => by simp; omega
  | x :: r, a, b, h, h1, h2 => by
    obtain ⟨p1, p2⟩ := List.pairwise_cons.mp h
    have hx1 := h1 x List.mem_cons_self
    have hx2 := h2 x List.mem_cons_self
    have q := asc_bound (a := x + 1) (b := b) p2 (fun y hy => by have := p1 y hy; omega) fun y hy => h2 y (List.mem_cons_of_mem _ hy)
    simp only [List.length_cons]
    omega
theorem ent_len {S : Sch} (ok : OkSch S) {e : List Int} (h : OkEnt S e) : e.length ≤ 3 := by
  have q := asc_bound h.asc h.lo h.hi
  have := ok.w3
  omega
end EL

set_option maxHeartbeats 4000000
namespace EL
open PySem L2
section
variable {P : Program} {w : World} {K : PySem.W.Frag} {mg : Str → Option Value} {base : Heap} {C aW aX f : Addr} {fd : FuncData}
/-! ### the properties -/
def spProp (C : Addr) (i : Int) : Sp := fun vs H Q _ => ∃ (a dx r : Addr) (e : V) (xs : List V) (v : V), vs = [.ref a] ∧ H a = some (.ins C dx (fsS (.ref r) e)) ∧ H r = some (.tup xs) ∧ atI xs i = some v ∧ Q v H
abbrev sWidth : Stmt := inClass (top 17) 1
abbrev sFirst : Stmt := inClass (top 17) 2
abbrev sSteps : Stmt := inClass (top 17) 3
theorem scWidth : FnScope ["self"] ["self"] (defScope sWidth) := ⟨rfl, rfl, rfl, by decide +kernel, rfl, by decide +kernel, by decide +kernel⟩
theorem scFirst : FnScope ["self"] ["self"] (defScope sFirst) := ⟨rfl, rfl, rfl, by decide +kernel, rfl, by decide +kernel, by decide +kernel⟩
theorem scSteps : FnScope ["self"] ["self"] (defScope sSteps) := ⟨rfl, rfl, rfl, by decide +kernel, rfl, by decide +kernel, by decide +kernel⟩
theorem ok_width (F : Fun K "width" "Schedule.width" sWidth f fd) (T : Txt K mg C aW aX) : FnOk P w K mg base CX0 1 f fd ["self"] (spProp C 0) := by
  refine F.ok scWidth (fun vs H Q E h => ?_) (fun cdv A outer s H vs Q E hr h => ?_)
  · obtain ⟨_, _, _, _, _, _, rfl, _⟩ := h; rfl
  · obtain ⟨a, dx, r, e, xs, v, rfl, ha, hr', hv, k⟩ := h
    exact ⟨_, (pss_one (ps_ret (pe_ix (kIxT K) (kFld K rfl (pv 0)) pe_int (fun _ _ => rfl)))), _, rfl, a, C, dx, _, _, rfl, ha, T.cl, T.nR, lk_row _ _, r, _, _, _, rfl, rfl, .of hr', hv, k⟩
theorem ok_first (F : Fun K "first" "Schedule.first" sFirst f fd) (T : Txt K mg C aW aX) : FnOk P w K mg base CX0 1 f fd ["self"] (spProp C 1) := by
  refine F.ok scFirst (fun vs H Q E h => ?_) (fun cdv A outer s H vs Q E hr h => ?_)
  · obtain ⟨_, _, _, _, _, _, rfl, _⟩ := h; rfl
  · obtain ⟨a, dx, r, e, xs, v, rfl, ha, hr', hv, k⟩ := h
    exact ⟨_, (pss_one (ps_ret (pe_ix (kIxT K) (kFld K rfl (pv 0)) pe_int (fun _ _ => rfl)))), _, rfl, a, C, dx, _, _, rfl, ha, T.cl, T.nR, lk_row _ _, r, _, _, _, rfl, rfl, .of hr', hv, k⟩
theorem ok_steps (F : Fun K "steps" "Schedule.steps" sSteps f fd) (T : Txt K mg C aW aX) : FnOk P w K mg base CX0 1 f fd ["self"] (spProp C 2) := by
  refine F.ok scSteps (fun vs H Q E h => ?_) (fun cdv A outer s H vs Q E hr h => ?_)
  · obtain ⟨_, _, _, _, _, _, rfl, _⟩ := h; rfl
  · obtain ⟨a, dx, r, e, xs, v, rfl, ha, hr', hv, k⟩ := h
    exact ⟨_, (pss_one (ps_ret (pe_ix (kIxT K) (kFld K rfl (pv 0)) pe_int (fun _ _ => rfl)))), _, rfl, a, C, dx, _, _, rfl, ha, T.cl, T.nR, lk_row _ _, r, _, _, _, rfl, rfl, .of hr', hv, k⟩
/-! ### check_schedule, check_lag, check_both -/
abbrev sCkSch : Stmt := top 18
def spCkSch (C : Addr) : Sp := fun vs H Q _ => ∃ (x : V) (S : Sch), vs = [x] ∧ SchT C H x S ∧ Q .non H
theorem scCkSch : FnScope ["value"] ["value"] (defScope sCkSch) := ⟨rfl, rfl, rfl, by decide +kernel, rfl, by decide +kernel, by decide +kernel⟩
theorem ok_check_schedule (F : Fun K "check_schedule" "check_schedule" sCkSch f fd) (T : Txt K mg C aW aX) : FnOk P w K mg base CX0 1 f fd ["value"] (spCkSch C) := by
  refine F.ok scCkSch (fun vs H Q E h => ?_) (fun cdv A outer s H vs Q E hr h => ?_)
  · obtain ⟨_, _, rfl, _⟩ := h; rfl
  · obtain ⟨x, S, rfl, ⟨a, dx, r, x, y, e, rfl, ha, _⟩, k⟩ := h
    refine ⟨_, (pss_one (ps_if (pt_not (pt_val (pe_callB (kIsi K) (by rfl) T.n_isinstance (by decide +kernel) (pa_cons (pv 0) (pa_cons (pe_glob (v := .ref C) (by rfl) T.g_Schedule rfl) pa_nil))))) (pss_one ps_never) pss_nil)), ?_⟩
    exact ⟨_, rfl, _, _, _, _, true, rfl, .own C, .base (.ins ha T.cl T.hcl T.hsp T.htk T.hmo), T.kSelf, true, rfl, ifF rfl k⟩
abbrev sCkLag : Stmt := top 20
def spCkLag : Sp := fun vs H Q _ => ∃ (l : Nat), vs = [.int l] ∧ l ≤ 4 ∧ Q .non H
theorem scCkLag : FnScope ["value"] ["value"] (defScope sCkLag) := ⟨rfl, rfl, rfl, by decide +kernel, rfl, by decide +kernel, by decide +kernel⟩
theorem ok_check_lag (F : Fun K "check_lag" "check_lag" sCkLag f fd) (T : Txt K mg C aW aX) (c_is_whole : Ca P w K mg base CX0 1 "is_whole" ["value", "low", "high"] spIsWhole) : FnOk P w K mg base CX0 2 f fd ["value"] spCkLag := by
  refine F.ok scCkLag (fun vs H Q E h => ?_) (fun cdv A outer s H vs Q E hr h => ?_)
  · obtain ⟨_, rfl, _⟩ := h; rfl
  · obtain ⟨l, rfl, hl, k⟩ := h
    obtain ⟨tL, gL⟩ := T.g_MOST_LAG
    refine ⟨_, (pss_one (ps_if (pt_not (pt_val (pe_ca c_is_whole (hr.mono (by decide)) (by rfl) pass0 (pa_cons (pv 0) (pa_cons pe_int (pa_cons (pe_glob (v := .int 4) (by rfl) gL ⟨_, rfl⟩) pa_nil)))))) (pss_one ps_never) pss_nil)), ?_⟩
    refine ⟨_, rfl, _, 0, 4, rfl, true, ?_, ifF rfl k⟩
    rw [decide_eq_true (by omega), decide_eq_true (by omega)]; rfl
abbrev sCkBoth : Stmt := top 19
def spCkBoth (C : Addr) : Sp := fun vs H Q _ => ∃ (x : V) (S : Sch) (l : Nat), vs = [x, .int l] ∧ SchT C H x S ∧ l ≤ 4 ∧ Q .non H
theorem scCkBoth : FnScope ["schedule", "lag"] ["schedule", "lag"] (defScope sCkBoth) := ⟨rfl, rfl, rfl, by decide +kernel, rfl, by decide +kernel, by decide +kernel⟩
theorem ok_check_both (F : Fun K "check_both" "check_both" sCkBoth f fd) (T : Txt K mg C aW aX) (c_check_schedule : Ca P w K mg base CX0 1 "check_schedule" ["value"] (spCkSch C)) (c_check_lag : Ca P w K mg base CX0 2 "check_lag" ["value"] spCkLag) :
    FnOk P w K mg base CX0 3 f fd ["schedule", "lag"] (spCkBoth C) := by
  refine F.ok scCkBoth (fun vs H Q E h => ?_) (fun cdv A outer s H vs Q E hr h => ?_)
  · obtain ⟨_, _, _, rfl, _⟩ := h; rfl
  · obtain ⟨x, S, l, rfl, hS, hl, k⟩ := h
    exact ⟨_, (pss_cons (ps_expr (pe_ca c_check_schedule (hr.mono (by decide)) (by rfl) pass0 (pa_cons (pv 0) pa_nil)))
      (pss_one (ps_expr (pe_ca c_check_lag (hr.mono (by decide)) (by rfl) pass0 (pa_cons (pv 1) pa_nil))))), _, rfl, x, S, rfl, hS, _, rfl, l, rfl, hl, k⟩
/-! ### window_at -/
abbrev sWindow : Stmt := top 21
def spWindow (C : Addr) : Sp := fun vs H Q _ => ∃ (x : V) (S : Sch) (b l : Nat), vs = [x, .int b, .int l] ∧ SchT C H x S ∧ S.steps.length ≤ 12 ∧
  ∀ H' p, Same H H' → H' p = some (.lst ((win S b l).map fun n => V.int (n : Nat))) → Q (.ref p) H'
theorem scWindow : FnScope ["schedule", "begun", "lag", "many", "step"] ["schedule", "begun", "lag"] (defScope sWindow) := ⟨rfl, rfl, rfl, by decide +kernel, rfl, by decide +kernel, by decide +kernel⟩
theorem ok_window (F : Fun K "window_at" "window_at" sWindow f fd) (T : Txt K mg C aW aX) (p_steps : Pr P w K mg base C 1 "steps" (spProp C 2)) : FnOk P w K mg base CX0 3 f fd ["schedule", "begun", "lag"] (spWindow C) := by
  refine F.ok scWindow (fun vs H Q E h => ?_) (fun cdv A outer s H vs Q E hr h => ?_)
  · obtain ⟨_, _, _, _, rfl, _⟩ := h; rfl
  · obtain ⟨x, S, b, l, rfl, hS, h12, k⟩ := h
    have nd := scWindow.nd
    obtain ⟨a, dx, r, x, y, e, rfl, ha, hR, hx, ⟨c, ys, rfl, hc, pc⟩, he⟩ := id hS
    refine ⟨_, (pss_cons (ps_set (i := 3) nd rfl (by first | exact Or.inl rfl | exact Or.inr rfl) (pe_op op_add pe_int (pe_callB (kLen K) (by rfl) T.n_len PySem.boot_len (pa_cons (pe_lc  (own := [("step", 4)]) rfl nd (kPiT K rfl (pe_slice (kSlA K) (pe_pr p_steps T.cl (hr.mono (by decide)) (pv 0)) po_none (po_some (pv 1)))) (blkOk_by (by kernel_rfl)) (fun _ _ _ _ _ => (pg_name (i := 4) nd rfl (by first | exact Or.inl rfl | exact Or.inr rfl))) (fun _ _ _ _ _ => (pts_one (pt_cmpR op_eq (pe_ix (kIxT K) (pv 4) pe_int (fun _ _ => rfl)) pe_str (nomark _)))) (fun _ _ _ _ _ => (pv 4))) pa_nil))))
      (pss_one (ps_ret (pe_slice (kSlL K) (pe_listRg rfl (by rfl) T.n_list (prg_1 (by rfl) T.n_range (pv 3))) (po_some (pe_un un_neg (pe_op op_add (pv 2) pe_int))) po_none)))), ?_⟩
    refine ⟨_, rfl, a, dx, _, rfl, ha, a, dx, r, _, _, _, rfl, ha, hR, rfl, _, rfl, _, rfl, slA_intro hc fun d H1 s1 hd => ?_⟩
    rw [cut_hi] at hd
    refine ⟨d, rfl, ⟨_, .of hd⟩, fun D hD => lc_tup (K := K) (a := d) (xs := ys.take b) (fun i H' => Same H1 H' ∧ ∃ zs, H' D = some (.lst zs) ∧ zs.length = (((S.steps.take b).take i).filter Stp.isEd).length)
      ⟨Same.new hD, [], upd_same, by simp⟩ (fun i H' _ h => SqT.of (h.1 _ _ hd)) ?_ ?_⟩
    · rintro i v H' hi ⟨s2, zs, hz, lz⟩
      have pc1 : Paired (StpT H') (ys.take b) (S.steps.take b) := (mono_paired mono_stp (Keep.of (s1.trans s2)) pc).e_take b
      obtain ⟨t, ht, rt⟩ := pc1.e_at hi
      obtain ⟨g, u, rfl, hg, e1, e2, e3⟩ := stp_at rt
      refine ⟨rfl, _, rfl, g, _, _, _, rfl, rfl, .of hg, at0, rfl, _, rfl, ?_⟩
      rw [not_ed_kind, take_succ ht, List.filter_append]
      have l12 : zs.length ≤ 12 := by
        rw [lz]
        refine Nat.le_trans (List.length_filter_le _ _) ?_
        rw [List.length_take, List.length_take]; omega
      cases ht' : t.isEd with
      | true =>
        refine ifT rfl ⟨_, rfl, zs, hz, small1000 (by omega), Same.own s2 hD, _, upd_same, ?_⟩
        simp [List.length_append, lz, ht']
      | false =>
        refine ifF rfl ⟨s2, zs, hz, ?_⟩
        simp [lz, ht']
    · rintro H' ⟨s2, zs, hz, lz⟩
      have e1 : (((S.steps.take b).take (ys.take b).length).filter Stp.isEd).length = ((S.steps.take b).filter Stp.isEd).length := by
        rw [List.take_of_length_le (by rw [List.length_take, List.length_take, pc.e_len]; exact Nat.le_refl _)]
      rw [e1] at lz
      refine ⟨D, zs, rfl, .inl (.of hz), 1, zs.length, rfl, rfl, ?_⟩
      have em : (1 : Int) + (zs.length : Nat) = ((eds S b : Nat) : Int) := by unfold eds; omega
      have e13 := eds_small h12 b
      refine ⟨_, rfl, _, rfl, ⟨by decide, by decide, by omega, by omega, by omega⟩, fun q hq => ⟨_, rfl, _, _, rfl, rfl, _, rfl, _, rfl, q, _, rfl, .of upd_same, fun p hp => ?_⟩⟩
      refine k _ p (((s1.trans s2).trans (Same.new hq)).trans (Same.new hp)) ?_
      refine upd_same.trans ?_
      show some (HO.lst (cutV (rgV 0 (1 + (zs.length : Nat))) (some (-((l : Int) + 1))) none)) = _
      rw [em, rgV_eq]
      have en : (-((l : Int) + 1)) = -((l + 1 : Nat) : Int) := by omega
      rw [en, cut_neg _ _ (by omega), List.length_map, List.length_range, ← List.map_drop]
      rfl
end
end EL

set_option maxHeartbeats 4000000
namespace EL
open PySem L2
theorem asc_next {e : List Int} (a : Asc e) {i : Nat} {x y : Int} (hx : e[i]? = some x) (hy : (e.drop 1)[i]? = some y) : x < y := by
  rw [List.getElem?_drop] at hy
  obtain ⟨h1, e1⟩ := List.getElem?_eq_some_iff.mp hx
  obtain ⟨h2, e2⟩ := List.getElem?_eq_some_iff.mp hy
  have := List.pairwise_iff_getElem.mp a i (1 + i) h1 h2 (by omega)
  rw [e1, e2] at this; exact this
theorem noP {σ : L2.St} {H : Hp} {Q : Option Int → Hp → Prop} (h : Q none H) : tNoPart σ H Q := h
section
variable {P : Program} {w : World} {K : PySem.W.Frag} {mg : Str → Option Value} {base : Heap} {C aW aX f : Addr} {fd : FuncData}
/-! ### are_entries -/
abbrev sAreEntries : Stmt := top 24
def spAreEntries : Sp := fun vs H Q _ => ∃ (m : Nat) (x : V) (e : List Int), vs = [.int m, x] ∧ IntsT H x e ∧ Asc e ∧ (∀ z ∈ e, 0 ≤ z ∧ z < m) ∧ e.length ≤ 60 ∧ ∀ H', Same H H' → Q (.bl true) H'
theorem scAreEntries : FnScope ["values", "value", "one", "late"] ["values", "value"] (defScope sAreEntries) := ⟨rfl, rfl, rfl, by decide +kernel, rfl, by decide +kernel, by decide +kernel⟩
theorem ok_are_entries (F : Fun K "are_entries" "are_entries" sAreEntries f fd) (T : Txt K mg C aW aX) (c_is_whole : Ca P w K mg base CX0 1 "is_whole" ["value", "low", "high"] spIsWhole) :
    FnOk P w K mg base CX0 2 f fd ["values", "value"] spAreEntries := by
  refine F.ok scAreEntries (fun vs H Q E h => ?_) (fun cdv A outer s H vs Q E hr h => ?_)
  · obtain ⟨_, _, _, rfl, _⟩ := h; rfl
  · obtain ⟨m, x, e, rfl, ⟨a, rfl, ha⟩, asc, bd, h60, k⟩ := h
    have nd := scAreEntries.nd
    refine ⟨_, (pss_cons (ps_if (PW.pt (pw_or (pt_not (pt_val (pe_callB (kIsi K) (by rfl) T.n_isinstance (by decide +kernel) (pa_cons (pv 1) (pa_cons (pe_bltn (v := .ty "tuple") (u := .type "tuple") (by rfl) T.n_tuple (by decide +kernel) rfl) pa_nil))))) (pw_or1 (pt_not (pt_val (pe_callB (kAll K rfl rfl) (by rfl) T.n_all (by decide +kernel) (pa_cons (pe_lc  (own := [("one", 2)]) rfl nd (kPiT K rfl (pv 1)) (blkOk_by (by kernel_rfl)) (fun _ _ _ _ _ => (pg_name (i := 2) nd rfl (by first | exact Or.inl rfl | exact Or.inr rfl))) (fun _ _ _ _ _ => pts_nil) (fun _ _ _ _ _ => (pe_ca c_is_whole (hr.mono (by decide)) (by rfl) pass0 (pa_cons (pv 2) (pa_cons pe_int (pa_cons (pe_op op_sub (pv 0) pe_int) pa_nil)))))) pa_nil))))))) (pss_one (ps_ret pe_bl)) pss_nil)
      (pss_one (ps_ret (pe_callB (kAll K rfl rfl) (by rfl) T.n_all (by decide +kernel) (pa_cons (pe_lc  (own := [("one", 2), ("late", 3)]) rfl nd (RZ.pi_zipA (by rfl) T.n_zip (pa_cons (pv 1) (pa_cons (pe_slice (kSlA K) (pv 1) (po_some pe_int) po_none) pa_nil))) (blkOk_by (by kernel_rfl)) (fun _ _ _ _ _ => (kTg K (n := 2) rfl rfl (pgs_cons (pg_name (i := 2) nd rfl (by first | exact Or.inl rfl | exact Or.inr rfl)) (pgs_cons (pg_name (i := 3) nd rfl (by first | exact Or.inl rfl | exact Or.inr rfl)) pgs_nil)))) (fun _ _ _ _ _ => pts_nil) (fun _ _ _ _ _ => (pe_cmpR op_lt (pv 2) (pv 3) (nomark _)))) pa_nil))))), ?_⟩
    refine ⟨_, rfl, _, _, _, _, true, rfl, .ty "tuple", .base (.tup ha), kit_ty (by decide +kernel), true, rfl, ifF rfl ?_⟩
    refine ⟨_, rfl, a, rfl, ⟨_, .of ha⟩, fun D hD => lc_tup (K := K) (a := a) (xs := e.map V.int) (fun i H' => Same H H' ∧ H' D = some (.lst ((List.replicate i true).map V.bl)))
      ⟨Same.new hD, upd_same⟩ (fun i H' _ h => SqT.of (h.1 _ _ ha)) ?_ ?_⟩
    · rintro i y H' hi ⟨s1, h1⟩
      obtain ⟨z, hz, rfl⟩ := map_at hi
      have hil := lt_of_at hz
      obtain ⟨b1, b2⟩ := bd z (List.mem_of_getElem? hz)
      refine ⟨rfl, yes (ifT rfl ⟨_, rfl, _, rfl, _, _, rfl, rfl, z, 0, (m : Int) - 1, rfl, _, h1, ?_, Same.own s1 hD, ?_⟩)⟩
      · rw [List.length_map, List.length_replicate]; exact small1000 (by omega)
      · rw [decide_eq_true (by omega), decide_eq_true (by omega)]
        show upd H' D (.lst (((List.replicate i true).map V.bl) ++ [V.bl true])) D = _
        rw [tru_rep]; exact upd_same
    rintro H' ⟨s1, h1⟩
    refine ⟨D, _, rfl, .of h1, true, by rw [all_rep], ifF rfl ?_⟩
    refine ⟨_, rfl, _, rfl, 1, rfl, noP (slA_intro (s1.at ha) fun c H2 s2 hc => ?_)⟩
    have hc' : H2 c = some (.tup ((e.drop 1).map V.int)) := by
      rw [hc, List.map_drop]
      exact congrArg (fun q => some (HO.tup q)) (cut_lo (e.map V.int) 1)
    have s12 := s1.trans s2
    refine ⟨a, c, _, _, rfl, .inr ⟨.of (s12.at ha), .of hc', fun D2 hD2 => lc_it (walk_zipT rfl) (fun i H' => Same H2 H' ∧ H' D2 = some (.lst ((List.replicate i true).map V.bl)))
      ⟨Same.new hD2, upd_same⟩ (fun i H' _ h => ⟨.of (h.1.at (s12.at ha)), .of (h.1.at hc')⟩) ?_ ?_⟩⟩
    · rintro i y H3 H4 hi ⟨s3, h3⟩ ⟨T1, x1, x2, rfl, hT, rfl, e1, e2⟩
      obtain ⟨z1, hz1, rfl⟩ := map_at e1
      obtain ⟨z2, hz2, rfl⟩ := map_at e2
      have lt := asc_next asc hz1 hz2
      have hil := lt_of_at hz1
      refine ⟨T1, _, rfl, .of upd_same, rfl, _, _, rfl, _, _, rfl, rfl, rfl, yes (ifT rfl ⟨_, rfl, _, rfl, _, _, rfl, rfl, _, (Same.new hT).at h3, ?_, Same.own (s3.trans (Same.new hT)) hD2, ?_⟩)⟩
      · rw [List.length_map, List.length_replicate]; exact small1000 (by omega)
      · refine upd_same.trans ?_
        show some (HO.lst (_ ++ [V.bl (decide (z1 < z2))])) = _
        rw [decide_eq_true lt, tru_rep]
    · rintro H3 ⟨s3, h3⟩
      refine ⟨D2, _, rfl, .of h3, ?_⟩
      rw [all_rep]
      exact k _ (s12.trans s3)
/-! ### is_state -/
abbrev sIsState : Stmt := top 25
def spIsState (C : Addr) : Sp := fun vs H Q _ => ∃ (x v : V) (S : Sch) (s : Sta), vs = [x, v] ∧ SchT C H x S ∧ OkSch S ∧ StaT H v s ∧ OkSta S s ∧ ∀ H', Same H H' → Q (.bl true) H'
theorem scIsState : FnScope ["schedule", "value", "begun", "is_due", "row", "entries", "some"] ["schedule", "value"] (defScope sIsState) := ⟨rfl, rfl, rfl, by decide +kernel, rfl, by decide +kernel, by decide +kernel⟩
theorem ok_is_state (F : Fun K "is_state" "is_state" sIsState f fd) (T : Txt K mg C aW aX) (c_is_whole : Ca P w K mg base CX0 1 "is_whole" ["value", "low", "high"] spIsWhole)
    (c_are_entries : Ca P w K mg base CX0 2 "are_entries" ["values", "value"] spAreEntries) (p_steps : Pr P w K mg base C 1 "steps" (spProp C 2)) (p_width : Pr P w K mg base C 1 "width" (spProp C 0)) (p_first : Pr P w K mg base C 1 "first" (spProp C 1)) :
    FnOk P w K mg base CX0 3 f fd ["schedule", "value"] (spIsState C) := by
  refine F.ok scIsState (fun vs H Q E h => ?_) (fun cdv A outer s H vs Q E hr h => ?_)
  · obtain ⟨_, _, _, _, rfl, _⟩ := h; rfl
  · obtain ⟨x, v, S, st, rfl, hS, okS, hV, ok, k⟩ := h
    have nd := scIsState.nd
    obtain ⟨a, dx, r, x, y, e, rfl, ha, hR, ⟨fa, rfl, hfa⟩, ⟨c, ys, rfl, hc, pc⟩, he⟩ := id hS
    obtain ⟨sa, se, rfl, hs, ⟨ea, xs, rfl, hea, pe⟩⟩ := hV
    have ly := pc.e_len
    have lx := pe.e_len
    refine ⟨_, (pss_cons (ps_if (PW.pt (pw_or (pt_not (pt_val (pe_callB (kIsi K) (by rfl) T.n_isinstance (by decide +kernel) (pa_cons (pv 1) (pa_cons (pe_bltn (v := .ty "tuple") (u := .type "tuple") (by rfl) T.n_tuple (by decide +kernel) rfl) pa_nil))))) (pw_or (pt_cmpR op_ne (pe_callB (kLen K) (by rfl) T.n_len PySem.boot_len (pa_cons (pv 1) pa_nil)) pe_int (nomark _)) (pw_or1 (pt_not (pt_val (pe_ca c_is_whole (hr.mono (by decide)) (by rfl) pass0 (pa_cons (pe_ix (kIxT K) (pv 1) pe_int (fun _ _ => rfl)) (pa_cons pe_int (pa_cons (pe_callB (kLen K) (by rfl) T.n_len PySem.boot_len (pa_cons (pe_pr p_steps T.cl (hr.mono (by decide)) (pv 0)) pa_nil)) pa_nil)))))))))) (pss_one (ps_ret pe_bl)) pss_nil)
      (pss_cons (ps_asg (pv 1) (kTg K (n := 4) rfl rfl (pgs_cons (pg_name (i := 2) nd rfl (by first | exact Or.inl rfl | exact Or.inr rfl)) (pgs_cons (pg_name (i := 3) nd rfl (by first | exact Or.inl rfl | exact Or.inr rfl)) (pgs_cons (pg_name (i := 4) nd rfl (by first | exact Or.inl rfl | exact Or.inr rfl)) (pgs_cons (pg_name (i := 5) nd rfl (by first | exact Or.inl rfl | exact Or.inr rfl)) pgs_nil))))))
      (pss_cons (ps_if (PW.pt (pw_or (pt_not (pt_val (pe_callB (kIsi K) (by rfl) T.n_isinstance (by decide +kernel) (pa_cons (pv 3) (pa_cons (pe_bltn (v := .ty "bool") (u := .type "bool") (by rfl) T.n_bool (by decide +kernel) rfl) pa_nil))))) (pw_or1 (pt_not (PW.pt (pw_or (pt_cmp (pc_isN (pv 4))) (pw_or1 (pt_val (pe_ca c_is_whole (hr.mono (by decide)) (by rfl) pass0 (pa_cons (pv 4) (pa_cons pe_int (pa_cons (pe_op op_sub (pe_pr p_width T.cl (hr.mono (by decide)) (pv 0)) pe_int) pa_nil)))))))))))) (pss_one (ps_ret pe_bl)) pss_nil)
      (pss_cons (ps_if (PW.pt (pw_and (pt_val (pv 3)) (pw_and1 (PW.pt (pw_or (pt_cmpR op_eq (pv 2) pe_int (nomark _)) (pw_or1 (pt_cmpR op_eq (pe_ix (kIxT K) (pe_ix (kIxT K) (pe_pr p_steps T.cl (hr.mono (by decide)) (pv 0)) (pe_op op_sub (pv 2) pe_int) (fun _ _ => rfl)) pe_int (fun _ _ => rfl)) pe_str (nomark _)))))))) (pss_one (ps_ret pe_bl)) pss_nil)
      (pss_cons (ps_if (PW.pt (pw_or (pt_not (pt_val (pe_callB (kIsi K) (by rfl) T.n_isinstance (by decide +kernel) (pa_cons (pv 5) (pa_cons (pe_bltn (v := .ty "tuple") (u := .type "tuple") (by rfl) T.n_tuple (by decide +kernel) rfl) pa_nil))))) (pw_or1 (pt_cmpR op_ne (pe_callB (kLen K) (by rfl) T.n_len PySem.boot_len (pa_cons (pv 5) pa_nil)) (pe_callB (kLen K) (by rfl) T.n_len PySem.boot_len (pa_cons (pe_pr p_first T.cl (hr.mono (by decide)) (pv 0)) pa_nil)) (nomark _))))) (pss_one (ps_ret pe_bl)) pss_nil)
      (pss_one (ps_ret (pe_callB (kAll K rfl rfl) (by rfl) T.n_all (by decide +kernel) (pa_cons (pe_lc  (own := [("some", 6)]) rfl nd (kPiT K rfl (pv 5)) (blkOk_by (by kernel_rfl)) (fun _ _ _ _ _ => (pg_name (i := 6) nd rfl (by first | exact Or.inl rfl | exact Or.inr rfl))) (fun _ _ _ _ _ => pts_nil) (fun _ _ _ _ _ => (pe_ca c_are_entries (hr.mono (by decide)) (by rfl) pass0 (pa_cons (pe_pr p_width T.cl (hr.mono (by decide)) (pv 0)) (pa_cons (pv 6) pa_nil))))) pa_nil))))))))), ?_⟩
    refine ⟨_, rfl, _, _, _, _, true, rfl, .ty "tuple", .base (.tup hs), kit_ty (by decide +kernel), true, rfl, ifF rfl ?_⟩
    refine ⟨_, rfl, sa, _, rfl, .inr (.of hs), rfl, _, rfl, ifF rfl ?_⟩
    refine ⟨_, rfl, sa, _, _, _, rfl, rfl, .of hs, rfl, _, rfl, a, dx, _, rfl, ha, a, dx, r, _, _, _, rfl, ha, hR, rfl, c, ys, rfl, .inr (.of hc), (st.begun : Int), 0, (ys.length : Int), rfl, true, ?_, ifF rfl ?_⟩
    · rw [decide_eq_true (by omega), decide_eq_true (by have := ok.begun; omega)]; rfl
    refine ⟨_, rfl, sa, _, rfl, .of hs, rfl, _, _, rfl, _, _, rfl, _, _, rfl, _, _, rfl, rfl, ?_⟩
    dsimp only
    refine seq_cut (fun σ' H' => σ' = [some (.ref a), some (.ref sa), some (.int st.begun), some (.bl st.due), some (rowV st.row), some (.ref ea), none] ∧ H = H') (fun R hRR => ?_) ?_
    · refine ⟨_, rfl, _, _, _, _, true, rfl, .ty "bool", .base (.bl _), kit_ty (by decide +kernel), true, rfl, ?_⟩
      refine ifF rfl ?_
      refine ⟨_, rfl, _, rfl, ?_⟩
      cases hrow : st.row with
      | none =>
        refine ifT rfl (ifF rfl (hRR _ _ ⟨?_, rfl⟩))
        rw [hrow]; rfl
      | some z =>
        obtain ⟨b1, b2⟩ := ok.row z hrow
        refine ifF rfl ⟨_, rfl, _, rfl, a, dx, _, rfl, ha, a, dx, r, _, _, _, rfl, ha, hR, rfl, _, _, rfl, rfl, z, 0, (S.width : Int) - 1, rfl, true, ?_, ifF rfl (hRR _ _ ⟨?_, rfl⟩)⟩
        · rw [decide_eq_true (by omega), decide_eq_true (by omega)]; rfl
        · rw [hrow]; rfl
    · rintro σ' H' ⟨rfl, rfl⟩
      refine seq_cut (fun σ' H' => σ' = [some (.ref a), some (.ref sa), some (.int st.begun), some (.bl st.due), some (rowV st.row), some (.ref ea), none] ∧ H = H') (fun R hRR => ?_) ?_
      · refine ⟨_, rfl, st.due, rfl, ?_⟩
        cases hd : st.due with
        | false => exact ifF rfl (ifF rfl (hRR _ _ ⟨by rw [hd], rfl⟩))
        | true =>
          obtain ⟨t, n0, ht, hne⟩ := ok.due hd
          obtain ⟨u, hu, ru⟩ := pc.e_at2 ht
          obtain ⟨g, u2, rfl, hg, _⟩ := stp_at ru
          refine ifT rfl ⟨_, rfl, rfl, _, rfl, ifF (decide_eq_false fun q => n0 (by have := V.int.inj q; omega)) ?_⟩
          refine ⟨_, rfl, a, dx, _, rfl, ha, a, dx, r, _, _, _, rfl, ha, hR, rfl, _, rfl, _, _, rfl, rfl, c, ys, _, _, rfl, rfl, .of hc, at_of (j := st.begun - 1) (by omega) hu, g, _, _, _, rfl, rfl, .of hg, at0, rfl, _, rfl, ifF ?_ (hRR _ _ ⟨by rw [hd], rfl⟩)⟩
          rw [not_ed_kind]; exact hne
      · rintro σ' H' ⟨rfl, rfl⟩
        refine ⟨_, rfl, _, _, _, _, true, rfl, .ty "tuple", .base (.tup hea), kit_ty (by decide +kernel), true, rfl, ifF rfl ?_⟩
        refine ⟨_, rfl, ea, _, rfl, .inr (.of hea), _, rfl, a, dx, _, rfl, ha, a, dx, r, _, _, _, rfl, ha, hR, rfl, fa, _, rfl, .inr (.of hfa), rfl, _, rfl, ifF ?_ ?_⟩
        · rw [List.length_map, lx, ok.len]; exact congrArg not (decide_eq_true rfl)
        refine ⟨_, rfl, ea, rfl, ⟨_, .of hea⟩, fun D hD => lc_tup (K := K) (a := ea) (xs := xs) (fun i H' => Same H' H' ∧ Same H H' ∧ H' D = some (.lst ((List.replicate i true).map V.bl)))
          ⟨Same.refl _, Same.new hD, upd_same⟩ (fun i H' _ h => SqT.of (h.2.1 _ _ hea)) ?_ ?_⟩
        · rintro i y H' hi ⟨_, s1, h1⟩
          obtain ⟨en, hen, ren⟩ := pe.e_at hi
          have hil := lt_of_at hen
          have oke := ok.ents en (List.mem_of_getElem? hen)
          have l3 := ent_len okS oke
          have lf := okS.first.len
          have lo := ok.len
          refine ⟨rfl, yes (ifT rfl ⟨_, rfl, a, dx, _, rfl, s1.at ha, a, dx, r, _, _, _, rfl, s1.at ha, s1.at hR, rfl, _, rfl, S.width, y, en, rfl, mono_ints.go (Keep.of s1) ren, oke.asc, fun z hz => ⟨oke.lo z hz, oke.hi z hz⟩, by omega,
            fun H2 s2 => ⟨_, s2.at h1, ?_, Same.refl _, Same.own (s1.trans s2) hD, ?_⟩⟩)⟩
          · rw [List.length_map, List.length_replicate]; exact small1000 (by rcases lf with q | q <;> omega)
          · rw [tru_rep]; exact upd_same
        · rintro H' ⟨_, s1, h1⟩
          refine ⟨D, _, rfl, .of h1, ?_⟩
          rw [all_rep]
          exact k _ s1
/-! ### check_state -/
abbrev sCkState : Stmt := top 26
def spCkState (C : Addr) : Sp := fun vs H Q _ => ∃ (x v : V) (S : Sch) (s : Sta) (l : Nat), vs = [x, v, .int l] ∧ SchT C H x S ∧ OkSch S ∧ StaT H v s ∧ OkSta S s ∧ l ≤ 4 ∧ ∀ H', Same H H' → Q .non H'
theorem scCkState : FnScope ["schedule", "state", "lag"] ["schedule", "state", "lag"] (defScope sCkState) := ⟨rfl, rfl, rfl, by decide +kernel, rfl, by decide +kernel, by decide +kernel⟩
theorem ok_check_state (F : Fun K "check_state" "check_state" sCkState f fd) (T : Txt K mg C aW aX) (c_check_both : Ca P w K mg base CX0 3 "check_both" ["schedule", "lag"] (spCkBoth C)) (c_is_state : Ca P w K mg base CX0 3 "is_state" ["schedule", "value"] (spIsState C)) :
    FnOk P w K mg base CX0 4 f fd ["schedule", "state", "lag"] (spCkState C) := by
  refine F.ok scCkState (fun vs H Q E h => ?_) (fun cdv A outer s H vs Q E hr h => ?_)
  · obtain ⟨_, _, _, _, _, rfl, _⟩ := h; rfl
  · obtain ⟨x, v, S, st, l, rfl, hS, okS, hV, ok, hl, k⟩ := h
    refine ⟨_, (pss_cons (ps_expr (pe_ca c_check_both (hr.mono (by decide)) (by rfl) pass0 (pa_cons (pv 0) (pa_cons (pv 2) pa_nil))))
      (pss_one (ps_if (pt_not (pt_val (pe_ca c_is_state (hr.mono (by decide)) (by rfl) pass0 (pa_cons (pv 0) (pa_cons (pv 1) pa_nil))))) (pss_one ps_never) pss_nil))), ?_⟩
    exact ⟨_, rfl, _, rfl, x, S, l, rfl, hS, hl, _, rfl, _, rfl, x, v, S, st, rfl, hS, okS, hV, ok, fun H' s1 => ⟨true, rfl, ifF rfl (k _ s1)⟩⟩
end
end EL

set_option maxHeartbeats 4000000
namespace EL
open PySem PySem.Spec PyProof.Rows L2
open AutoSeq1 (wpAny_loadPart')
/-! ### tuple * 1 is the tuple itself -/
theorem tuple_mul1 (l : Addr) (items : Array Value) (n : Nat) (dd : Option Addr) (sl : Array (Option Value)) (u : Tok) :
    Meets (Builtin.«tuple.__mul__» ⟨[.ref l, .int 1 u], []⟩) (fun _ R s => s.heap.get? l = some { cls := .type "tuple", dict := dd, data := .seq items n, slots := sl } ∧ R (.ok (.ret (Value.ref l))) s) :=
  .of_wp fun prog w A R s h => by
    obtain ⟨hp, g, d, tk, os⟩ := s
    obtain ⟨hl, h⟩ := h
    have f1 := AutoSeq1.idx_int
    have c0 : (decide ((1 : Int) < -(2 ^ 63)) || decide ((1 : Int) ≥ 2 ^ 63)) = false := by decide
    have c1 : (items.isEmpty || ((1 : Int) == 1)) = true := by simp
    wp_walk using wpAny_loadPart' hl
    repeat (first
      | (refine wpAny_ite_false (decide_eq_false (by rw [c0]; exact Bool.false_ne_true)) ?_; wp_walk using wpAny_loadPart' hl)
      | (refine wpAny_ite_true (decide_eq_true c1) ?_; wp_walk using wpAny_loadPart' hl))
    all_goals exact ⟨_, rfl, h⟩
section
variable {X : Cx}
def rRep1 (K : PySem.W.Frag) : R2 := fun x y H Q => ∃ l xs, x = .ref l ∧ y = .int 1 ∧ SqT K H l xs ∧ Q (.ref l) H
theorem op_rep1 : OpR X (binaryOp .Mult) (rRep1 X.K) := by
  intro pins s σ H x y v u Q I rx ry h
  obtain ⟨l, xs, rfl, rfl, hT, q⟩ := h
  cases rx
  obtain ⟨t, rfl⟩ := ry
  obtain ⟨its, r, ⟨⟨cls, dd, data, sl⟩, ho, hc, n, hd⟩, hs⟩ := I.tuple hT
  simp only at hc hd
  subst hc hd
  refine wpAny_binaryOp_repeat_ref (T := "tuple") (U := "int") (by decide) ⟨_, ho, rfl⟩ (fun s' => typeIs_int s' 1 t) noFill_tuple_mul F.fills_int_mul F.slot_int_rmul repeat_tuple F.slot_int_index.lookup
    (call_meets F.slot_int_rmul (typeIs_int s 1 t) F.entry_int_rmul (F.args_int_rmul_2 _ _) (int_rmul_tuple 1 t l its.toArray n dd sl)
      ⟨ho, rfl, ⟨_, ho, rfl⟩, call_meets F.slot_tuple_mul ⟨_, ho, rfl⟩ F.entry_tuple_mul (F.args_tuple_mul_2 _ _) (tuple_mul1 l its.toArray n dd sl t) ⟨ho, ?_⟩⟩)
  exact ⟨.ref l, _, I, rfl, q⟩
/-- tuple * int, one way out -/
def rRepE (K : PySem.W.Frag) : R2 := fun x y H Q => ∃ (l : Addr) (k : Nat) (xs : List V), x = .ref l ∧ y = .int k ∧ H l = some (.tup xs) ∧ xs ≠ [] ∧ 1 ≤ k ∧ k ≤ 1000 ∧ xs.length ≤ 1000 ∧ ∀ p H', Same H H' → H' p = some (.tup (List.replicate k xs).flatten) → Q (.ref p) H'
theorem op_repE : OpR X (binaryOp .Mult) (rRepE X.K) := by
  intro pins s σ H x y v u Q I rx ry h
  obtain ⟨l, k, xs, rfl, rfl, hT, hne, h1, h2, hz, q⟩ := h
  by_cases c : k = 1
  · subst c
    exact op_rep1 pins s σ H _ _ v u Q I rx ry ⟨l, xs, rfl, rfl, .of hT, q l H (Same.refl H) (by simpa using hT)⟩
  · exact op_repT pins s σ H _ _ v u Q I rx ry ⟨l, k, xs, rfl, rfl, .of hT, hne, by omega, by omega, hz, fun p hp => q p _ (Same.new hp) (by rw [Int.toNat_natCast]; exact upd_same)⟩
end
/-! ### plain data: equality is equality -/
mutual
theorem eqv_refl : ∀ d : PyData, d.canLay0 = true → PyData.eqv d d = true
  | .none, _ => by simp [PyData.eqv]
  | .bool _, _ => by simp [PyData.eqv]
  | .int _, _ => by simp [PyData.eqv]
  | .str _, _ => by simp [PyData.eqv]
  | .list xs, h => by simp only [PyData.eqv]; exact eqvAll_refl xs (by simpa [PyData.canLay0] using h)
  | .tuple xs, h => by simp only [PyData.eqv]; exact eqvAll_refl xs (by simpa [PyData.canLay0] using h)
  | .dict _, h => by simp [PyData.canLay0] at h
theorem eqvAll_refl : ∀ ds : List PyData, PyData.canLayAll0 ds = true → PyData.eqvAll ds ds = true
  | [], _ => by simp [PyData.eqvAll]
  | x :: xs, h => by
    simp only [PyData.canLayAll0, Bool.and_eq_true] at h
    simp only [PyData.eqvAll, Bool.and_eq_true]
    exact ⟨eqv_refl x h.1, eqvAll_refl xs h.2⟩
end
theorem eqv_self {d : PyData} (h : SeqAt.shaped d = true) : PyData.eqv d d = true := eqv_refl d (SeqAt.canLay_of_shaped h)
theorem canAll : ∀ {ds : List PyData}, (∀ d ∈ ds, d.canLay0 = true) → PyData.canLayAll0 ds = true
  | [], _ => by simp [PyData.canLayAll0]
  | d :: r, h => by
    simp only [PyData.canLayAll0, Bool.and_eq_true]
    exact ⟨h d List.mem_cons_self, canAll fun e q => h e (List.mem_cons_of_mem _ q)⟩
theorem depAll {n : Nat} : ∀ {ds : List PyData}, (∀ d ∈ ds, d.depth ≤ n) → PyData.depthAll ds ≤ n
  | [], _ => by simp [PyData.depthAll]
  | d :: r, h => by
    simp only [PyData.depthAll]
    exact Nat.max_le.mpr ⟨h d List.mem_cons_self, depAll fun e q => h e (List.mem_cons_of_mem _ q)⟩
/-- may be compared, at most n deep -/
structure Shp (n : Nat) (d : PyData) : Prop where
  can : d.canLay0 = true
  dep : d.depth ≤ n
theorem Shp.go {n : Nat} {d : PyData} (h : Shp n d) (hn : n ≤ 64 := by decide) : SeqAt.shaped d = true := by
  unfold SeqAt.shaped
  rw [h.can, decide_eq_true (Nat.le_trans h.dep hn)]; rfl
theorem Shp.tup {n : Nat} {ds : List PyData} (h : ∀ d ∈ ds, Shp n d) : Shp (n + 1) (.tuple ds) :=
  ⟨by simp only [PyData.canLay0]; exact canAll fun d q => (h d q).can, by simp only [PyData.depth]; exact Nat.succ_le_succ (depAll fun d q => (h d q).dep)⟩
theorem Shp.lst {n : Nat} {ds : List PyData} (h : ∀ d ∈ ds, Shp n d) : Shp (n + 1) (.list ds) :=
  ⟨by simp only [PyData.canLay0]; exact canAll fun d q => (h d q).can, by simp only [PyData.depth]; exact Nat.succ_le_succ (depAll fun d q => (h d q).dep)⟩
theorem Shp.mono {n m : Nat} {d : PyData} (h : Shp n d) (q : n ≤ m) : Shp m d := ⟨h.can, Nat.le_trans h.dep q⟩
theorem Shp.int {i : Int} : Shp 0 (.int i) := ⟨by simp [PyData.canLay0], by simp [PyData.depth]⟩
theorem Shp.bl {b : Bool} : Shp 0 (.bool b) := ⟨by simp [PyData.canLay0], by simp [PyData.depth]⟩
theorem Shp.non : Shp 0 .none := ⟨by simp [PyData.canLay0], by simp [PyData.depth]⟩
theorem Shp.str {x : Str} (h : PyData.strOk x = true) : Shp 0 (.str x) := ⟨by simp [PyData.canLay0, h], by simp [PyData.depth]⟩
/-- flat values as data -/
def dV : V → PyData
  | .non => .none
  | .bl b => .bool b
  | .int i => .int i
  | .str x => .str x
  | _ => .none
def flat4 : V → Bool
  | .non => true
  | .bl _ => true
  | .int _ => true
  | .str x => PyData.strOk x
  | _ => false
theorem dp_flat {K : PySem.W.Frag} {H : Hp} : ∀ {v : V}, flat4 v = true → Dp K H v (dV v)
  | .non, _ => .non
  | .bl b, _ => .bl b
  | .int i, _ => .int i
  | .str x, _ => .str x
  | .ref _, h => nomatch h
  | .ty _, h => nomatch h
  | .byt _, h => nomatch h
  | .flt _, h => nomatch h
theorem dps_flat {K : PySem.W.Frag} {H : Hp} : ∀ {vs : List V}, vs.all flat4 = true → DpAll K H vs (vs.map dV)
  | [], _ => .nil
  | v :: r, h => by
    rw [List.all_cons, Bool.and_eq_true] at h
    exact .cons (dp_flat h.1) (dps_flat h.2)
theorem shp_flat : ∀ {v : V}, flat4 v = true → Shp 0 (dV v)
  | .non, _ => .non
  | .bl b, _ => .bl
  | .int i, _ => .int
  | .str x, h => .str h
  | .ref _, h => nomatch h
  | .ty _, h => nomatch h
  | .byt _, h => nomatch h
  | .flt _, h => nomatch h
theorem shp_flats {vs : List V} (h : vs.all flat4 = true) : Shp 1 (.tuple (vs.map dV)) := .tup fun d hd => by
  obtain ⟨v, hv, rfl⟩ := List.mem_map.mp hd
  exact shp_flat (List.all_eq_true.mp h v hv)
theorem shp_flatsL {vs : List V} (h : vs.all flat4 = true) : Shp 1 (.list (vs.map dV)) := .lst fun d hd => by
  obtain ⟨v, hv, rfl⟩ := List.mem_map.mp hd
  exact shp_flat (List.all_eq_true.mp h v hv)
/-! ### the data of the states and deeds -/
def dDeed (d : Deed) : PyData := .tuple (d.vals.map dV)
def dInts (e : List Int) : PyData := .tuple (e.map PyData.int)
def dSta (s : Sta) : PyData := .tuple [.int s.begun, .bool s.due, dV (rowV s.row), .tuple (s.ents.map dInts)]
theorem deed_flat (d : Deed) : d.vals.all flat4 = true := by
  cases d with
  | begin => decide +kernel
  | visit => decide +kernel
  | cut n => show (PyData.strOk ("cut" : Str) && (true && true)) = true; decide +kernel
  | put n v => show (PyData.strOk ("put" : Str) && (true && (true && true))) = true; decide +kernel
theorem dp_deed {K : PySem.W.Frag} {H : Hp} {v : V} {d : Deed} (h : DeedT H v d) : Dp K H v (dDeed d) := by
  obtain ⟨a, rfl, h⟩ := h
  exact .tup (.of h) (dps_flat (deed_flat d))
theorem shp_deed (d : Deed) : Shp 1 (dDeed d) := shp_flats (deed_flat d)
theorem dp_intsL {K : PySem.W.Frag} {H : Hp} : ∀ {e : List Int}, DpAll K H (e.map V.int) (e.map PyData.int)
  | [] => .nil
  | i :: r => .cons (.int i) dp_intsL
theorem dp_ints {K : PySem.W.Frag} {H : Hp} {v : V} {e : List Int} (h : IntsT H v e) : Dp K H v (dInts e) := by
  obtain ⟨a, rfl, h⟩ := h
  exact .tup (.of h) dp_intsL
theorem shp_ints (e : List Int) : Shp 1 (dInts e) := .tup fun d hd => by
  obtain ⟨i, _, rfl⟩ := List.mem_map.mp hd
  exact .int
theorem dp_all {K : PySem.W.Frag} {H : Hp} {α : Type} {R : Hp → V → α → Prop} {f : α → PyData} (h : ∀ v a, R H v a → Dp K H v (f a)) : ∀ {xs : List V} {as : List α}, Paired (R H) xs as → DpAll K H xs (as.map f)
  | _, _, .nil => .nil
  | _, _, .cons r t => .cons (h _ _ r) (dp_all h t)
theorem row_flat (r : Option Int) : flat4 (rowV r) = true := by cases r <;> rfl
theorem dp_sta {K : PySem.W.Frag} {H : Hp} {v : V} {s : Sta} (h : StaT H v s) : Dp K H v (dSta s) := by
  obtain ⟨a, x, rfl, h, ⟨b, xs, rfl, hb, pb⟩⟩ := h
  exact .tup (.of h) (.cons (.int _) (.cons (.bl _) (.cons (dp_flat (row_flat _)) (.cons (.tup (.of hb) (dp_all (fun _ _ q => dp_ints q) pb)) .nil))))
theorem shp_sta (s : Sta) : Shp 3 (dSta s) := .tup fun d hd => by
  simp only [List.mem_cons, List.not_mem_nil, or_false] at hd
  rcases hd with rfl | rfl | rfl | rfl
  · exact Shp.int.mono (by decide)
  · exact Shp.bl.mono (by decide)
  · exact (shp_flat (row_flat _)).mono (by decide)
  · refine .tup fun d hd => ?_
    obtain ⟨e, _, rfl⟩ := List.mem_map.mp hd
    exact shp_ints e
/-- a list of things that are data -/
theorem dp_list {K : PySem.W.Frag} {H : Hp} {α : Type} {R : Hp → V → α → Prop} {f : α → PyData} (h : ∀ v a, R H v a → Dp K H v (f a)) {v : V} {as : List α} (p : LstOf R H v as) : Dp K H v (.list (as.map f)) := by
  obtain ⟨a, xs, rfl, ha, pa⟩ := p
  exact .lst (.of ha) (dp_all h pa)
theorem shp_list {α : Type} {f : α → PyData} {n : Nat} (h : ∀ a, Shp n (f a)) (as : List α) : Shp (n + 1) (.list (as.map f)) := .lst fun d hd => by
  obtain ⟨e, _, rfl⟩ := List.mem_map.mp hd
  exact h e
end EL

set_option maxHeartbeats 4000000
namespace EL
open PySem L2
/-! ### mirrors -/
def visitedM (t : Stp) (row : Option Int) (es : List (List Int)) : List (List Int) :=
  match t with
  | .ed _ => es
  | .sweep i => es.set i []
  | .fill i => match row with
    | none => es
    | some v => es.set i (addV (es.getD i []) v)
def firstM (S : Sch) : Sta := ⟨0, false, none, List.replicate S.first.length []⟩
def isNot (r : Option Int) (n : Nat) : Bool := !decide (V.int (n : Nat) = rowV r)
def cutRow (S : Sch) (s : Sta) (n : Nat) : Deed × Sta := (.cut n, ⟨s.begun, s.due, none, servedM (S.every.getD n []) s.row none s.ents⟩)
def putRow (S : Sch) (s : Sta) (n v : Nat) : Deed × Sta := (.put n v, ⟨s.begun, s.due, some v, servedM (S.every.getD n []) s.row (some (v : Int)) s.ents⟩)
def rowsA (S : Sch) (s : Sta) : List (Deed × Sta) :=
  if s.due = false ∧ s.begun < S.steps.length then [(.begin, ⟨s.begun + 1, !(S.steps.getD s.begun (.fill 0)).isEd, s.row, s.ents⟩)] else []
def rowsB (S : Sch) (s : Sta) : List (Deed × Sta) :=
  if s.due = true then [(.visit, ⟨s.begun, false, s.row, visitedM (S.steps.getD (s.begun - 1) (.fill 0)) s.row s.ents⟩)] else []
def rowsC (S : Sch) (l : Nat) (s : Sta) : List (Deed × Sta) :=
  if s.row = none then [] else (win S s.begun l).map (cutRow S s)
def putsOf (S : Sch) (s : Sta) (n : Nat) : List (Deed × Sta) := ((List.range S.width).filter (isNot s.row)).map (putRow S s n)
def rowsD (S : Sch) (l : Nat) (s : Sta) : List (Deed × Sta) := (win S s.begun l).flatMap (putsOf S s)
def rowsIn (S : Sch) (l : Nat) (s : Sta) : List (Deed × Sta) := rowsA S s ++ rowsB S s ++ rowsC S l s ++ rowsD S l s
theorem set_eq (es : List (List Int)) (i : Nat) (x : List Int) (h : i < es.length) : es.set i x = es.take i ++ [x] ++ es.drop (i + 1) := by
  rw [List.set_eq_take_append_cons_drop, if_pos h, List.append_assoc]; rfl
theorem getD_of {α : Type} {l : List α} {i : Nat} {x d : α} (h : l[i]? = some x) : l.getD i d = x := by
  rw [List.getD_eq_getElem?_getD, h]; rfl
section
variable {P : Program} {w : World} {K : PySem.W.Frag} {mg : Str → Option Value} {base : Heap} {C aW aX f : Addr} {fd : FuncData}
/-! ### visited -/
abbrev sVisited : Stmt := top 30
def spVisited : Sp := fun vs H Q _ => ∃ (x y : V) (t : Stp) (row : Option Int) (es : List (List Int)), vs = [x, rowV row, y] ∧ StpT H x t ∧ t.isEd = false ∧ OkStp es.length t ∧ EntsT H y es ∧ AscL es ∧ es.length ≤ 60 ∧
  ∀ H' u, Same H H' → EntsT H' u (visitedM t row es) → Q u H'
theorem scVisited : FnScope ["step", "row", "entries", "some"] ["step", "row", "entries"] (defScope sVisited) := ⟨rfl, rfl, rfl, by decide +kernel, rfl, by decide +kernel, by decide +kernel⟩
theorem ok_visited (F : Fun K "visited" "visited" sVisited f fd) (T : Txt K mg C aW aX) (c_with_value : Ca P w K mg base CX0 1 "with_value" ["some", "value"] spWithValue) :
    FnOk P w K mg base CX0 2 f fd ["step", "row", "entries"] spVisited := by
  refine F.ok scVisited (fun vs H Q E h => ?_) (fun cdv A outer s H vs Q E hr h => ?_)
  · obtain ⟨_, _, _, _, _, rfl, _⟩ := h; rfl
  · obtain ⟨x, y, t, row, es, rfl, ht, hne, ok, ⟨ea, xs, rfl, hea, pe⟩, asc, h60, k⟩ := h
    have nd := scVisited.nd
    obtain ⟨a, u, rfl, ha, e1, e2, e3⟩ := stp_at ht
    obtain ⟨i, hi, hil⟩ : ∃ i : Nat, u = .int i ∧ i < es.length := by
      cases t with
      | ed e => cases hne
      | fill i => exact ⟨i, e2 i rfl, ok⟩
      | sweep i => exact ⟨i, e3 i rfl, ok⟩
    subst hi
    have lx := pe.e_len
    obtain ⟨en, hen⟩ : ∃ en, es[i]? = some en := ⟨es[i], by simp [hil]⟩
    obtain ⟨z, hz, rz⟩ := pe.e_at2 hen
    obtain ⟨as_en, len_en⟩ := asc en (List.mem_of_getElem? hen)
    refine ⟨_, (pss_cons (ps_set (i := 3) nd rfl (by first | exact Or.inl rfl | exact Or.inr rfl) (pe_ix (kIxT K) (pv 2) (pe_ix (kIxT K) (pv 0) pe_int (fun _ _ => rfl)) (fun _ _ => rfl)))
      (pss_cons (ps_if (pt_cmpR op_eq (pe_ix (kIxT K) (pv 0) pe_int (fun _ _ => rfl)) pe_str (nomark _)) (pss_one (ps_set (i := 3) nd rfl (by first | exact Or.inl rfl | exact Or.inr rfl) (pe_tup pa_nil))) (pss_one (ps_if (pt_cmp (pc_notN (pv 1))) (pss_one (ps_set (i := 3) nd rfl (by first | exact Or.inl rfl | exact Or.inr rfl) (pe_ca c_with_value (hr.mono (by decide)) (by rfl) pass0 (pa_cons (pv 3) (pa_cons (pv 1) pa_nil))))) pss_nil)))
      (pss_one (ps_ret (pe_op (kCatA K) (pe_op (kCatA K) (pe_slice (kSlA K) (pv 2) po_none (po_some (pe_ix (kIxT K) (pv 0) pe_int (fun _ _ => rfl)))) (pe_tup (pa_cons (pv 3) pa_nil))) (pe_slice (kSlA K) (pv 2) (po_some (pe_op op_add (pe_ix (kIxT K) (pv 0) pe_int (fun _ _ => rfl)) pe_int)) po_none)))))), ?_⟩
    refine ⟨_, rfl, _, rfl, a, _, _, _, rfl, rfl, .of ha, at1, ea, xs, _, _, rfl, rfl, .of hea, atI_nat hz, ?_⟩
    dsimp only
    refine seq_cut (fun σ' H' => ∃ (q : V) (e2 : List Int), σ' = [some (.ref a), some (rowV row), some (.ref ea), some q] ∧ Same H H' ∧ IntsT H' q e2 ∧ visitedM t row es = es.set i e2) (fun R hR => ?_) ?_
    · refine ⟨_, rfl, a, _, _, _, rfl, rfl, .of ha, at0, rfl, _, rfl, ?_⟩
      cases t with
      | ed e => cases hne
      | sweep j =>
        have hj : i = j := by have q := e3 j rfl; injection q with q; omega
        subst hj
        refine ifT rfl ⟨by show 0 ≤ sizeLine; decide, fun p hp => hR _ _ ⟨.ref p, [], rfl, Same.new hp, ⟨p, rfl, upd_same⟩, rfl⟩⟩
      | fill j =>
        have hj : i = j := by have q := e2 j rfl; injection q with q; omega
        subst hj
        refine ifF rfl ⟨_, rfl, _, rfl, ?_⟩
        cases row with
        | none =>
          refine ifF rfl (hR _ _ ⟨z, en, rfl, Same.refl _, rz, ?_⟩)
          show es = es.set i en
          rw [← (List.getElem?_eq_some_iff.mp hen).2, List.set_getElem_self]
        | some v =>
          refine ifT rfl ⟨_, rfl, _, rfl, z, en, v, rfl, rz, as_en, by omega, fun H' q s1 hq => hR _ _ ⟨q, _, rfl, s1, hq, ?_⟩⟩
          show es.set i (addV (es.getD i []) v) = _
          rw [getD_of hen]
    · rintro σ' H' ⟨q, e2, rfl, s1, hq, em⟩
      refine ⟨_, rfl, noP ⟨_, rfl, a, _, _, _, rfl, rfl, .of (s1.at ha), at1, _, rfl, slA_intro (s1.at hea) fun c1 H1 s2 h1 => ?_⟩⟩
      refine ⟨_, rfl, by show 1 ≤ sizeLine; decide, fun p hp => catA_intro ((Same.new hp).at h1) upd_same ?_ fun c2 H2 s3 h2 => ?_⟩
      · rw [cut_hi, List.length_take]
        exact Nat.le_of_lt (small1000 (by show _ + 1 ≤ 1000; omega))
      have s4 : Same H H2 := ((s1.trans s2).trans (Same.new hp)).trans s3
      refine ⟨_, rfl, _, rfl, a, _, _, _, rfl, rfl, .of (s4.at ha), at1, _, _, rfl, rfl, (i + 1 : Nat), rfl, noP (slA_intro (s4.at hea) fun c3 H3 s5 h3 => ?_)⟩
      refine catA_intro (s5.at h2) h3 ?_ fun c4 H4 s6 h4 => ?_
      · rw [cut_hi, cut_lo, List.length_append, List.length_take, List.length_drop]
        exact Nat.le_of_lt (small1000 (by show _ + 1 + _ ≤ 1000; omega))
      have s7 : Same H' H4 := ((((s2.trans (Same.new hp)).trans s3).trans s5).trans s6)
      rw [cut_hi, cut_lo] at h4
      refine k _ _ (s1.trans s7) ⟨c4, _, rfl, h4, ?_⟩
      rw [em, set_eq _ _ _ hil]
      have pe4 := mono_paired mono_ints (Keep.of (s1.trans s7)) pe
      exact ((pe4.e_take i).e_app (.cons (mono_ints.go (Keep.of s7) hq) .nil)).e_app (pe4.e_drop (i + 1))
/-! ### first_of -/
abbrev sFirstOf : Stmt := top 31
def spFirstOf (C : Addr) : Sp := fun vs H Q _ => ∃ (x : V) (S : Sch), vs = [x] ∧ SchT C H x S ∧ OkSch S ∧ ∀ H' u, Same H H' → StaT H' u (firstM S) → Q u H'
theorem scFirstOf : FnScope ["schedule"] ["schedule"] (defScope sFirstOf) := ⟨rfl, rfl, rfl, by decide +kernel, rfl, by decide +kernel, by decide +kernel⟩
theorem paired_rep {α β : Type} {R : α → β → Prop} {a : α} {b : β} (h : R a b) : ∀ n, Paired R (List.replicate n a) (List.replicate n b)
  | 0 => .nil
  | n + 1 => .cons h (paired_rep h n)
theorem ok_first_of (F : Fun K "first_of" "first_of" sFirstOf f fd) (T : Txt K mg C aW aX) (p_first : Pr P w K mg base C 1 "first" (spProp C 1)) :
    FnOk P w K mg base CX0 3 f fd ["schedule"] (spFirstOf C) := by
  refine F.ok scFirstOf (fun vs H Q E h => ?_) (fun cdv A outer s H vs Q E hr h => ?_)
  · obtain ⟨_, _, rfl, _⟩ := h; rfl
  · obtain ⟨x, S, rfl, hS, okS, k⟩ := h
    obtain ⟨a, dx, r, x, y, e, rfl, ha, hR, ⟨fa, rfl, hfa⟩, hy, he⟩ := id hS
    have lf := okS.first.len
    refine ⟨_, (pss_one (ps_ret (pe_tup (pa_cons pe_int (pa_cons pe_bl (pa_cons pe_non (pa_cons (pe_op op_repE (pe_tup (pa_cons (pe_tup pa_nil) pa_nil)) (pe_callB (kLen K) (by rfl) T.n_len PySem.boot_len (pa_cons (pe_pr p_first T.cl (hr.mono (by decide)) (pv 0)) pa_nil))) pa_nil))))))), ?_⟩
    refine ⟨by show 0 ≤ sizeLine; decide, fun p hp => ⟨by show 1 ≤ sizeLine; decide, fun p2 hp2 => ?_⟩⟩
    have s1 := (Same.new (o := .tup []) hp).trans (Same.new (o := .tup [.ref p]) hp2)
    refine ⟨_, rfl, a, dx, _, rfl, s1.at ha, a, dx, r, _, _, _, rfl, s1.at ha, s1.at hR, rfl, fa, _, rfl, .inr (.of (s1.at hfa)), p2, S.first.length, [.ref p], rfl, by rw [List.length_map], upd_same, by simp, by rcases lf with q | q <;> omega, by rcases lf with q | q <;> omega, (by show 1 ≤ 1000; decide), fun p3 H3 s3 h3 => ?_⟩
    refine ⟨by show 4 ≤ sizeLine; decide, fun p4 hp4 => k _ _ ((s1.trans s3).trans (Same.new hp4)) ⟨p4, .ref p3, rfl, upd_same, ⟨p3, _, rfl, (Same.new hp4).at h3, ?_⟩⟩⟩
    have hpe : IntsT (upd H3 p4 (.tup [.int 0, .bl false, .non, .ref p3])) (.ref p) [] := ⟨p, rfl, (Same.new hp4).at (s3.at ((Same.new hp2).at upd_same))⟩
    have e1 : (List.replicate S.first.length [V.ref p]).flatten = List.replicate S.first.length (.ref p) := by
      rw [List.flatten_replicate_singleton]
    rw [e1]
    exact paired_rep hpe _
end
end EL

set_option maxHeartbeats 4000000
namespace EL
open PySem L2
/-! ### rows_in -/
theorem row_mk {H H2 : Hp} {p1 p2 p3 : Addr} {d : Deed} {s : Sta} {x : V} (hp1 : H p1 = none) (s2 : Same (upd H p1 (.tup d.vals)) H2) (hp2 : H2 p2 = none)
    (hp3 : (upd H2 p2 (.tup [.int s.begun, .bl s.due, rowV s.row, x])) p3 = none) (hx : EntsT H2 x s.ents) :
    Same H (upd (upd H2 p2 (.tup [.int s.begun, .bl s.due, rowV s.row, x])) p3 (.tup [.ref p1, .ref p2])) ∧
    RowT (upd (upd H2 p2 (.tup [.int s.begun, .bl s.due, rowV s.row, x])) p3 (.tup [.ref p1, .ref p2])) (.ref p3) (d, s) := by
  have s3 := (Same.new (o := .tup [.int s.begun, .bl s.due, rowV s.row, x]) hp2)
  have s4 := (Same.new (o := .tup [.ref p1, .ref p2]) hp3)
  refine ⟨(((Same.new hp1).trans s2).trans s3).trans s4, p3, .ref p1, .ref p2, rfl, upd_same, ⟨p1, rfl, s4.at (s3.at (s2.at upd_same))⟩, ⟨p2, x, rfl, s4.at upd_same, mono_ents.go (Keep.of (s3.trans s4)) hx⟩⟩
def FndT (H : Hp) (F : Addr) (rs : List (Deed × Sta)) : Prop := ∃ xs, H F = some (.lst xs) ∧ Paired (RowT H) xs rs
theorem fnd_add {H H1 H2 : Hp} {F : Addr} {xs : List V} {rs : List (Deed × Sta)} {u : V} {r : Deed × Sta} (s1 : Same H H1) (n : H F = none) (s2 : Same H1 H2) (hF : H1 F = some (.lst xs)) (pr : Paired (RowT H1) xs rs) (hr : RowT H2 u r) :
    Same H (upd H2 F (.lst (xs ++ [u]))) ∧ FndT (upd H2 F (.lst (xs ++ [u]))) F (rs ++ [r]) := by
  have k : Keep H2 (upd H2 F (.lst (xs ++ [u]))) := Keep.lst (s2.at hF)
  exact ⟨(s1.trans s2).own n, _, upd_same, (mono_paired mono_row ((Keep.of s2).trans k) pr).e_snoc (mono_row.go k hr)⟩
theorem fnd_len {H : Hp} {xs : List V} {rs : List (Deed × Sta)} (h : Paired (RowT H) xs rs) (hl : rs.length ≤ 900) : xs.length < sizeLine := small1000 (by rw [h.e_len]; omega)
theorem len_rowsA (S : Sch) (s : Sta) : (rowsA S s).length ≤ 1 := by unfold rowsA; split <;> simp
theorem len_rowsB (S : Sch) (s : Sta) : (rowsB S s).length ≤ 1 := by unfold rowsB; split <;> simp
theorem len_rowsC {S : Sch} (h : S.steps.length ≤ 12) (l : Nat) (s : Sta) : (rowsC S l s).length ≤ 13 := by
  unfold rowsC; split
  · simp
  · rw [List.length_map]; exact win_small h _ _
theorem len_puts {S : Sch} (h : S.width ≤ 3) (s : Sta) (n : Nat) : (putsOf S s n).length ≤ 3 := by
  unfold putsOf
  rw [List.length_map]
  refine Nat.le_trans (List.length_filter_le _ _) ?_
  rw [List.length_range]; exact h
theorem len_flat {α β : Type} {f : α → List β} {k : Nat} (h : ∀ a, (f a).length ≤ k) : ∀ (l : List α), (l.flatMap f).length ≤ k * l.length
  | [] => by simp
  | a :: r => by
    rw [List.flatMap_cons, List.length_append, List.length_cons, Nat.mul_succ]
    have := h a; have := len_flat h r; omega
theorem len_rows {S : Sch} (okS : OkSch S) (l : Nat) (s : Sta) : (rowsIn S l s).length ≤ 54 := by
  unfold rowsIn
  have h1 := len_rowsA S s
  have h2 := len_rowsB S s
  have h3 := len_rowsC okS.n12 l s
  have h4 : (rowsD S l s).length ≤ 3 * (win S s.begun l).length := len_flat (fun n => len_puts okS.w3 s n) _
  have h5 := win_small okS.n12 s.begun l
  simp only [List.length_append]
  omega
theorem flat_succ {α β : Type} {f : α → List β} {l : List α} {i : Nat} {x : α} (h : l[i]? = some x) : (l.take (i + 1)).flatMap f = (l.take i).flatMap f ++ f x := by
  rw [take_succ h, List.flatMap_append]; simp
theorem range_filt (p : Nat → Bool) (i : Nat) : (List.range (i + 1)).filter p = (List.range i).filter p ++ (if p i then [i] else []) := by
  rw [List.range_succ, List.filter_append]
  by_cases h : p i <;> simp [h]
theorem not_nums {H : Hp} {xs : List V} {rs : List (Deed × Sta)} {ns : List Nat} (h : Paired (RowT H) xs rs) (e : xs = ns.map fun n => V.int (n : Nat)) (hn : 0 < ns.length) : False := by
  cases ns with
  | nil => simp at hn
  | cons n r =>
    subst e
    cases h with
    | cons q _ => obtain ⟨a, x, y, e, _⟩ := q; cases e
section
variable {P : Program} {w : World} {K : PySem.W.Frag} {mg : Str → Option Value} {base : Heap} {C aW aX f : Addr} {fd : FuncData}
abbrev sRowsIn : Stmt := top 32
def spRowsIn (C : Addr) : Sp := fun vs H Q _ => ∃ (x v : V) (S : Sch) (st : Sta) (l : Nat), vs = [x, .int l, v] ∧ SchT C H x S ∧ OkSch S ∧ StaT H v st ∧ OkSta S st ∧
  ∀ H' u, Same H H' → LstOf RowT H' u (rowsIn S l st) → Q u H'
theorem scRowsIn : FnScope ["schedule", "lag", "state", "begun", "is_due", "row", "entries", "found", "numbers", "number", "late", "value"] ["schedule", "lag", "state"] (defScope sRowsIn) := ⟨rfl, rfl, rfl, by decide +kernel, rfl, by decide +kernel, by decide +kernel⟩
theorem asc_sta {S : Sch} (okS : OkSch S) {s : Sta} (ok : OkSta S s) : AscL s.ents := fun e h => ⟨(ok.ents e h).asc, by have := ent_len okS (ok.ents e h); omega⟩
theorem every_at {S : Sch} (okS : OkSch S) {n b : Nat} (h : n < eds S b) : ∃ e, S.every[n]? = some e ∧ e.length = S.first.length := by
  have hl : n < S.every.length := Nat.lt_of_lt_of_le h (eds_le S b)
  refine ⟨S.every[n], by simp [hl], ?_⟩
  have hm : S.every[n] ∈ S.every := List.getElem_mem hl
  unfold Sch.every at hm
  rcases List.mem_cons.mp hm with q | q
  · exact congrArg List.length q
  · obtain ⟨t, ht, e⟩ := List.mem_filterMap.mp q
    cases t with
    | ed w => have z := (okS.steps _ ht).2; injection e with e; rw [← z]; exact congrArg List.length e.symm
    | fill i => cases e
    | sweep i => cases e
theorem ok_rows_in (F : Fun K "rows_in" "rows_in" sRowsIn f fd) (T : Txt K mg C aW aX) (c_visited : Ca P w K mg base CX0 2 "visited" ["step", "row", "entries"] spVisited) (c_window_at : Ca P w K mg base CX0 3 "window_at" ["schedule", "begun", "lag"] (spWindow C))
    (c_served : Ca P w K mg base CX0 2 "served" ["edition", "row", "entries", "value"] spServed) (p_steps : Pr P w K mg base C 1 "steps" (spProp C 2)) (p_width : Pr P w K mg base C 1 "width" (spProp C 0)) :
    FnOk P w K mg base CX0 4 f fd ["schedule", "lag", "state"] (spRowsIn C) := by
  refine F.ok scRowsIn (fun vs H Q E h => ?_) (fun cdv A outer s H vs Q E hr h => ?_)
  · obtain ⟨_, _, _, _, _, rfl, _⟩ := h; rfl
  · obtain ⟨x, v, S, st, l, rfl, hS, okS, hV, ok, k⟩ := h
    have nd := scRowsIn.nd
    obtain ⟨a, dx, r, x, y, e, rfl, ha, hR, hx, ⟨c, ys, rfl, hc, pc⟩, ⟨q, es, rfl, hq, pq⟩⟩ := id hS
    obtain ⟨sa, se, rfl, hs, hE⟩ := hV
    obtain ⟨ea, xs, rfl, hea, pe⟩ := id hE
    have ly := pc.e_len
    have lx := pe.e_len
    have lf := okS.first.len
    have h60 : st.ents.length ≤ 60 := by have := ok.len; rcases lf with q | q <;> omega
    have asc := asc_sta okS ok
    refine ⟨_, (pss_cons (ps_asg (pv 2) (kTg K (n := 4) rfl rfl (pgs_cons (pg_name (i := 3) nd rfl (by first | exact Or.inl rfl | exact Or.inr rfl)) (pgs_cons (pg_name (i := 4) nd rfl (by first | exact Or.inl rfl | exact Or.inr rfl)) (pgs_cons (pg_name (i := 5) nd rfl (by first | exact Or.inl rfl | exact Or.inr rfl)) (pgs_cons (pg_name (i := 6) nd rfl (by first | exact Or.inl rfl | exact Or.inr rfl)) pgs_nil))))))
      (pss_cons (ps_set (i := 7) nd rfl (by first | exact Or.inl rfl | exact Or.inr rfl) (pe_lst pa_nil))
      (pss_cons (ps_if (PW.pt (pw_and (pt_not (pt_val (pv 4))) (pw_and1 (pt_cmpR op_lt (pv 3) (pe_callB (kLen K) (by rfl) T.n_len PySem.boot_len (pa_cons (pe_pr p_steps T.cl (hr.mono (by decide)) (pv 0)) pa_nil)) (nomark _))))) (pss_one (ps_expr (pe_bm PySem.F.plainAttrs_list PySem.F.slot_list_append PySem.F.type_list_append mt_append (pv 7) (pa_cons (pe_tup (pa_cons (pe_tup (pa_cons pe_str pa_nil)) (pa_cons (pe_tup (pa_cons (pe_op op_add (pv 3) pe_int) (pa_cons (pe_cmpR op_ne (pe_ix (kIxT K) (pe_ix (kIxT K) (pe_pr p_steps T.cl (hr.mono (by decide)) (pv 0)) (pv 3) (fun _ _ => rfl)) pe_int (fun _ _ => rfl)) pe_str (nomark _)) (pa_cons (pv 5) (pa_cons (pv 6) pa_nil))))) pa_nil))) pa_nil)))) pss_nil)
      (pss_cons (ps_if (pt_val (pv 4)) (pss_one (ps_expr (pe_bm PySem.F.plainAttrs_list PySem.F.slot_list_append PySem.F.type_list_append mt_append (pv 7) (pa_cons (pe_tup (pa_cons (pe_tup (pa_cons pe_str pa_nil)) (pa_cons (pe_tup (pa_cons (pv 3) (pa_cons pe_bl (pa_cons (pv 5) (pa_cons (pe_ca c_visited (hr.mono (by decide)) (by rfl) pass0 (pa_cons (pe_ix (kIxT K) (pe_pr p_steps T.cl (hr.mono (by decide)) (pv 0)) (pe_op op_sub (pv 3) pe_int) (fun _ _ => rfl)) (pa_cons (pv 5) (pa_cons (pv 6) pa_nil)))) pa_nil))))) pa_nil))) pa_nil)))) pss_nil)
      (pss_cons (ps_set (i := 8) nd rfl (by first | exact Or.inl rfl | exact Or.inr rfl) (pe_ca c_window_at (hr.mono (by decide)) (by rfl) pass0 (pa_cons (pv 0) (pa_cons (pv 3) (pa_cons (pv 1) pa_nil)))))
      (pss_cons (ps_if (pt_cmp (pc_notN (pv 5))) (pss_one (ps_for PassesOwn.never rfl (kPiL K rfl (pv 8)) (pg_name (i := 9) nd rfl (by first | exact Or.inl rfl | exact Or.inr rfl)) (pss_cons (ps_set (i := 10) nd rfl (by first | exact Or.inl rfl | exact Or.inr rfl) (pe_ca c_served (hr.mono (by decide)) (by rfl) pass0 (pa_cons (pe_ix (kIxT K) (kFld K rfl (pv 0)) (pv 9) (fun _ _ => rfl)) (pa_cons (pv 5) (pa_cons (pv 6) (pa_cons pe_non pa_nil))))))
      (pss_one (ps_expr (pe_bm PySem.F.plainAttrs_list PySem.F.slot_list_append PySem.F.type_list_append mt_append (pv 7) (pa_cons (pe_tup (pa_cons (pe_tup (pa_cons pe_str (pa_cons (pv 9) pa_nil))) (pa_cons (pe_tup (pa_cons (pv 3) (pa_cons (pv 4) (pa_cons pe_non (pa_cons (pv 10) pa_nil))))) pa_nil))) pa_nil))))))) pss_nil)
      (pss_cons (ps_for PassesOwn.never rfl (kPiL K rfl (pv 8)) (pg_name (i := 9) nd rfl (by first | exact Or.inl rfl | exact Or.inr rfl)) (pss_one (ps_for PassesOwn.never rfl (pi_range1 (by rfl) T.n_range (pa_cons (pe_pr p_width T.cl (hr.mono (by decide)) (pv 0)) pa_nil)) (pg_name (i := 11) nd rfl (by first | exact Or.inl rfl | exact Or.inr rfl)) (pss_one (ps_if (pt_cmpR op_ne (pv 11) (pv 5) (nomark _)) (pss_cons (ps_set (i := 10) nd rfl (by first | exact Or.inl rfl | exact Or.inr rfl) (pe_ca c_served (hr.mono (by decide)) (by rfl) pass0 (pa_cons (pe_ix (kIxT K) (kFld K rfl (pv 0)) (pv 9) (fun _ _ => rfl)) (pa_cons (pv 5) (pa_cons (pv 6) (pa_cons (pv 11) pa_nil))))))
      (pss_one (ps_expr (pe_bm PySem.F.plainAttrs_list PySem.F.slot_list_append PySem.F.type_list_append mt_append (pv 7) (pa_cons (pe_tup (pa_cons (pe_tup (pa_cons pe_str (pa_cons (pv 9) (pa_cons (pv 11) pa_nil)))) (pa_cons (pe_tup (pa_cons (pv 3) (pa_cons (pv 4) (pa_cons (pv 11) (pa_cons (pv 10) pa_nil))))) pa_nil))) pa_nil))))) pss_nil)))))
      (pss_one (ps_ret (pv 7)))))))))), ?_⟩
    refine ⟨_, rfl, sa, _, rfl, .of hs, rfl, _, _, rfl, _, _, rfl, _, _, rfl, _, _, rfl, rfl, ?_⟩
    refine ⟨by show 0 ≤ sizeLine; decide, fun F hF => ?_⟩
    dsimp only
    -- begin
    refine seq_cut (fun σ' H' => σ' = [some (.ref a), some (.int l), some (.ref sa), some (.int st.begun), some (.bl st.due), some (rowV st.row), some (.ref ea), some (.ref F), none, none, none, none] ∧ Same H H' ∧ FndT H' F (rowsA S st)) (fun R hRR => ?_) ?_
    · have s1 : Same H (upd H F (.lst [])) := Same.new hF
      refine ⟨_, rfl, st.due, rfl, ?_⟩
      cases hd : st.due with
      | true =>
        refine ifF rfl (hRR _ _ ⟨by rw [hd]; rfl, s1, [], upd_same, ?_⟩)
        have e0 : rowsA S st = [] := by unfold rowsA; rw [if_neg (by rw [hd]; simp)]
        rw [e0]; exact .nil
      | false =>
        refine ifT rfl ⟨_, rfl, _, rfl, a, dx, _, rfl, s1.at ha, a, dx, r, _, _, _, rfl, s1.at ha, s1.at hR, rfl, c, ys, rfl, .inr (.of (s1.at hc)), _, _, rfl, rfl, _, rfl, ?_⟩
        by_cases cb : st.begun < S.steps.length
        · refine ifT (decide_eq_true (by omega)) ?_
          obtain ⟨t, ht⟩ : ∃ t, S.steps[st.begun]? = some t := ⟨S.steps[st.begun], by simp [cb]⟩
          obtain ⟨u, hu, ru⟩ := pc.e_at2 ht
          obtain ⟨g, u2, rfl, hg, _⟩ := stp_at ru
          refine ⟨_, rfl, .inl ⟨rfl, _, .of upd_same⟩, by show 1 ≤ sizeLine; decide, fun p1 hp1 => ?_⟩
          have s2 := s1.trans (Same.new (o := .tup [.str "begin"]) hp1)
          refine ⟨_, rfl, _, _, rfl, rfl, _, rfl, a, dx, _, rfl, s2.at ha, a, dx, r, _, _, _, rfl, s2.at ha, s2.at hR, rfl, _, rfl, c, ys, _, _, rfl, rfl, .of (s2.at hc), atI_nat hu, g, _, _, _, rfl, rfl, .of (s2.at hg), at0, rfl, _, rfl, _, rfl,
            by show 4 ≤ sizeLine; decide, fun p2 hp2 => ⟨by show 2 ≤ sizeLine; decide, fun p3 hp3 => ?_⟩⟩
          obtain ⟨s3, r3⟩ := row_mk (d := .begin) (s := ⟨st.begun + 1, !decide (V.str t.kind = V.str "edition"), st.row, st.ents⟩) hp1 (Same.refl _) hp2 hp3 (mono_ents.go (Keep.of s2) hE)
          refine ⟨F, [], .ref p3, rfl, rfl, s3.at upd_same, by decide, hRR _ _ ⟨by rw [hd]; rfl, ?_⟩⟩
          have e0 : rowsA S st = [] ++ [(.begin, ⟨st.begun + 1, !decide (V.str t.kind = V.str "edition"), st.row, st.ents⟩)] := by
            unfold rowsA; rw [if_pos ⟨hd, cb⟩, getD_of ht, not_ed_kind]; rfl
          rw [e0]
          exact fnd_add s1 hF s3 upd_same .nil r3
        · refine ifF (decide_eq_false (by omega)) (hRR _ _ ⟨by rw [hd]; rfl, s1, [], upd_same, ?_⟩)
          have e0 : rowsA S st = [] := by unfold rowsA; rw [if_neg (by simp [cb])]
          rw [e0]; exact .nil
    rintro σ' H1 ⟨rfl, s1, xs1, hF1, pf1⟩
    -- visit
    refine seq_cut (fun σ' H' => σ' = [some (.ref a), some (.int l), some (.ref sa), some (.int st.begun), some (.bl st.due), some (rowV st.row), some (.ref ea), some (.ref F), none, none, none, none] ∧ Same H H' ∧ FndT H' F (rowsA S st ++ rowsB S st)) (fun R hRR => ?_) ?_
    · refine ⟨_, rfl, st.due, rfl, ?_⟩
      cases hd : st.due with
      | false =>
        refine ifF rfl (hRR _ _ ⟨by rw [hd], s1, xs1, hF1, ?_⟩)
        have e0 : rowsB S st = [] := by unfold rowsB; rw [if_neg (by rw [hd]; simp)]
        rw [e0, List.append_nil]; exact pf1
      | true =>
        obtain ⟨t, n0, ht, hne⟩ := ok.due hd
        obtain ⟨u, hu, ru⟩ := pc.e_at2 ht
        refine ifT rfl ⟨_, rfl, .inl ⟨rfl, _, .of hF1⟩, by show 1 ≤ sizeLine; decide, fun p1 hp1 => ?_⟩
        have s2' := Same.new (o := .tup [.str "visit"]) hp1
        have s2 := s1.trans s2'
        refine ⟨_, rfl, _, rfl, _, rfl, a, dx, _, rfl, s2.at ha, a, dx, r, _, _, _, rfl, s2.at ha, s2.at hR, rfl, _, rfl, _, _, rfl, rfl, c, ys, _, _, rfl, rfl, .of (s2.at hc), at_of (j := st.begun - 1) (by omega) hu, _, rfl, _, rfl,
          u, .ref ea, t, st.row, st.ents, rfl, mono_stp.go (Keep.of s2) ru, hne, by rw [ok.len]; exact okS.steps t (List.mem_of_getElem? ht), mono_ents.go (Keep.of s2) hE, asc, h60, fun H2 u2 s3 hu2 => ?_⟩
        refine ⟨by show 4 ≤ sizeLine; decide, fun p2 hp2 => ⟨by show 2 ≤ sizeLine; decide, fun p3 hp3 => ?_⟩⟩
        obtain ⟨s4, r4⟩ := row_mk (d := .visit) (s := ⟨st.begun, false, st.row, visitedM t st.row st.ents⟩) hp1 s3 hp2 hp3 hu2
        refine ⟨F, xs1, .ref p3, rfl, rfl, s4.at hF1, fnd_len pf1 (by have := len_rowsA S st; omega), hRR _ _ ⟨by rw [hd], ?_⟩⟩
        have e0 : rowsB S st = [(.visit, ⟨st.begun, false, st.row, visitedM t st.row st.ents⟩)] := by
          unfold rowsB; rw [if_pos hd, getD_of ht]
        rw [e0]
        exact fnd_add s1 hF s4 hF1 pf1 r4
    rintro σ' H2 ⟨rfl, s2, xs2, hF2, pf2⟩
    have lAB : (rowsA S st ++ rowsB S st).length ≤ 2 := by rw [List.length_append]; have := len_rowsA S st; have := len_rowsB S st; omega
    -- numbers
    refine ⟨_, rfl, _, rfl, _, rfl, .ref a, S, st.begun, l, rfl, sch_keep (Keep.of s2) hS, okS.n12, fun H3 nu s3 hnu => ?_⟩
    dsimp only
    have s23 := s2.trans s3
    have wl := win_small okS.n12 st.begun l
    have hF3 := s3.at hF2
    have nne : nu ≠ F := by
      rintro rfl
      rw [hnu] at hF3
      injection hF3 with q1; injection q1 with q1
      exact not_nums pf2 q1.symm win_len
    have pf3 := mono_paired mono_row (Keep.of s3) pf2
    -- cut
    refine seq_cut (fun σ' H' => ∃ v1 v2 : Option V, σ' = [some (.ref a), some (.int l), some (.ref sa), some (.int st.begun), some (.bl st.due), some (rowV st.row), some (.ref ea), some (.ref F), some (.ref nu), v1, v2, none] ∧ Same H H' ∧ H' nu = some (.lst ((win S st.begun l).map fun n => V.int (n : Nat))) ∧ FndT H' F (rowsA S st ++ rowsB S st ++ rowsC S l st)) (fun R hRR => ?_) ?_
    · refine ⟨_, rfl, _, rfl, ?_⟩
      cases hrow : st.row with
      | none =>
        refine ifF rfl (hRR _ _ ⟨none, none, by rw [hrow]; rfl, s23, hnu, xs2, hF3, ?_⟩)
        have e0 : rowsC S l st = [] := by unfold rowsC; rw [if_pos hrow]
        rw [e0, List.append_nil]; exact pf3
      | some rv =>
        have e0 : rowsC S l st = (win S st.begun l).map (cutRow S st) := by unfold rowsC; rw [if_neg (by rw [hrow]; simp)]
        refine ifT rfl ⟨_, rfl, nu, rfl, ⟨_, .of hnu⟩, for_list (xs := (win S st.begun l).map fun n => V.int (n : Nat))
          (fun i σ' H' => ∃ v1 v2 : Option V, σ' = [some (.ref a), some (.int l), some (.ref sa), some (.int st.begun), some (.bl st.due), some (rowV st.row), some (.ref ea), some (.ref F), some (.ref nu), v1, v2, none] ∧ Same H H' ∧ H' nu = some (.lst ((win S st.begun l).map fun n => V.int (n : Nat))) ∧ FndT H' F (rowsA S st ++ rowsB S st ++ ((win S st.begun l).take i).map (cutRow S st)))
          ⟨none, none, by rw [hrow]; rfl, s23, hnu, xs2, hF3, by rw [List.take_zero, List.map_nil, List.append_nil]; exact pf3⟩ (fun i σ' H' _ ⟨_, _, _, _, hn, _⟩ => .of hn) ?_ ?_⟩
        · rintro i z σ' H4 hz ⟨v1, v2, rfl, s4, hn4, xs4, hF4, pf4⟩
          obtain ⟨n, hn, rfl⟩ := map_at hz
          have hil := lt_of_at hn
          obtain ⟨ed, hed, led⟩ := every_at okS (win_lt (List.mem_of_getElem? hn))
          obtain ⟨ev, hev, rev⟩ := pq.e_at2 hed
          refine ⟨_, rfl, a, C, dx, _, _, rfl, s4.at ha, T.cl, T.nE, lk_every _ _, _, rfl, q, es, _, _, rfl, rfl, .of (s4.at hq), atI_nat hev, _, rfl, _, rfl,
            ev, .ref ea, ed, st.ents, st.row, none, rfl, mono_words.go (Keep.of s4) rev, mono_ents.go (Keep.of s4) hE, by rw [led, ok.len], asc, h60, fun H5 u s5 hu => ?_⟩
          refine ⟨_, rfl, .inl ⟨rfl, _, .of (s5.at hF4)⟩, _, rfl, by show 2 ≤ sizeLine; decide, fun p1 hp1 => ⟨_, rfl, _, rfl, _, rfl, by show 4 ≤ sizeLine; decide, fun p2 hp2 => ⟨by show 2 ≤ sizeLine; decide, fun p3 hp3 => ?_⟩⟩⟩
          obtain ⟨s6, r6⟩ := row_mk (d := .cut n) (s := ⟨st.begun, st.due, none, servedM ed st.row none st.ents⟩) hp1 (Same.refl _) hp2 hp3 (mono_ents.go (Keep.new hp1) hu)
          obtain ⟨s7, f7⟩ := fnd_add s4 hF (s5.trans s6) hF4 pf4 r6
          refine ⟨F, xs4, .ref p3, rfl, rfl, s6.at (s5.at hF4), fnd_len pf4 ?_, _, _, rfl, s7, ?_, ?_⟩
          · rw [List.length_append, List.length_map, List.length_take]; omega
          · rw [upd_ne nne]; exact (s5.trans s6).at hn4
          · rw [take_succ hn, List.map_append, ← List.append_assoc]
            have e1 : cutRow S st n = (.cut n, ⟨st.begun, st.due, none, servedM ed st.row none st.ents⟩) := by unfold cutRow; rw [getD_of hed]
            show FndT _ F (_ ++ [cutRow S st n])
            rw [e1]
            exact f7
        · rintro σ' H4 ⟨v1, v2, rfl, s4, hn4, f4⟩
          rw [List.length_map, List.take_length, ← e0] at f4
          exact hRR _ _ ⟨v1, v2, by rw [hrow], s4, hn4, f4⟩
    rintro σ' H4 ⟨v1, v2, rfl, s4, hn4, xs4, hF4, pf4⟩
    have lABC : (rowsA S st ++ rowsB S st ++ rowsC S l st).length ≤ 15 := by rw [List.length_append]; have := len_rowsC okS.n12 l st; omega
    -- put
    refine seq_cut (fun σ' H' => ∃ v1 v2 v3 : Option V, σ' = [some (.ref a), some (.int l), some (.ref sa), some (.int st.begun), some (.bl st.due), some (rowV st.row), some (.ref ea), some (.ref F), some (.ref nu), v1, v2, v3] ∧ Same H H' ∧ FndT H' F (rowsIn S l st)) (fun R hRR => ?_) ?_
    · refine ⟨_, rfl, nu, rfl, ⟨_, .of hn4⟩, for_list (xs := (win S st.begun l).map fun n => V.int (n : Nat))
          (fun i σ' H' => ∃ v1 v2 v3 : Option V, σ' = [some (.ref a), some (.int l), some (.ref sa), some (.int st.begun), some (.bl st.due), some (rowV st.row), some (.ref ea), some (.ref F), some (.ref nu), v1, v2, v3] ∧ Same H H' ∧ H' nu = some (.lst ((win S st.begun l).map fun n => V.int (n : Nat))) ∧ FndT H' F (rowsA S st ++ rowsB S st ++ rowsC S l st ++ ((win S st.begun l).take i).flatMap (putsOf S st)))
          ⟨v1, v2, none, rfl, s4, hn4, xs4, hF4, by rw [List.take_zero, List.flatMap_nil, List.append_nil]; exact pf4⟩ (fun i σ' H' _ ⟨_, _, _, _, _, hn, _⟩ => .of hn) ?_ ?_⟩
      · rintro i z σ' H5 hz ⟨v1, v2, v3, rfl, s5, hn5, xs5, hF5, pf5⟩
        obtain ⟨n, hn, rfl⟩ := map_at hz
        have hil := lt_of_at hn
        obtain ⟨ed, hed, led⟩ := every_at okS (win_lt (List.mem_of_getElem? hn))
        obtain ⟨ev, hev, rev⟩ := pq.e_at2 hed
        have lD : (((win S st.begun l).take i).flatMap (putsOf S st)).length ≤ 39 := by
          have h4 := len_flat (k := 3) (f := putsOf S st) (fun n => len_puts okS.w3 st n) ((win S st.begun l).take i)
          rw [List.length_take] at h4; omega
        have lI : (rowsA S st ++ rowsB S st ++ rowsC S l st ++ ((win S st.begun l).take i).flatMap (putsOf S st)).length ≤ 60 := by rw [List.length_append]; omega
        generalize hB : rowsA S st ++ rowsB S st ++ rowsC S l st ++ ((win S st.begun l).take i).flatMap (putsOf S st) = B at pf5 lI
        refine ⟨_, rfl, a, dx, _, rfl, s5.at ha, a, dx, r, _, _, _, rfl, s5.at ha, s5.at hR, rfl, _, rfl, by have := okS.w3; omega, by have := okS.w3; omega, ?_⟩
        rw [Int.toNat_natCast]
        refine for_range (fun j σ' H' => ∃ v2 v3 : Option V, σ' = [some (.ref a), some (.int l), some (.ref sa), some (.int st.begun), some (.bl st.due), some (rowV st.row), some (.ref ea), some (.ref F), some (.ref nu), some (.int n), v2, v3] ∧ Same H H' ∧ H' nu = some (.lst ((win S st.begun l).map fun n => V.int (n : Nat))) ∧ FndT H' F (B ++ ((List.range j).filter (isNot st.row)).map (putRow S st n)))
          ⟨v2, v3, rfl, s5, hn5, xs5, hF5, by simpa using pf5⟩ ?_ ?_
        · rintro j σ' H6 hj ⟨v2, v3, rfl, s6, hn6, xs6, hF6, pf6⟩
          rw [Int.zero_add]
          have lw := okS.w3
          have lJ : ((List.range j).filter (isNot st.row)).length ≤ 3 := Nat.le_trans (List.length_filter_le _ _) (by rw [List.length_range]; omega)
          refine ⟨_, rfl, _, rfl, ?_, _, rfl, ?_⟩
          · cases st.row <;> rfl
          rw [range_filt, List.map_append, ← List.append_assoc]
          by_cases cn : isNot st.row j = true
          · rw [if_pos cn]
            refine ifT cn ?_
            refine ⟨_, rfl, a, C, dx, _, _, rfl, s6.at ha, T.cl, T.nE, lk_every _ _, _, rfl, q, es, _, _, rfl, rfl, .of (s6.at hq), atI_nat hev, _, rfl, _, rfl, _, rfl,
              ev, .ref ea, ed, st.ents, st.row, some (j : Int), rfl, mono_words.go (Keep.of s6) rev, mono_ents.go (Keep.of s6) hE, by rw [led, ok.len], asc, h60, fun H7 u s7 hu => ?_⟩
            refine ⟨_, rfl, .inl ⟨rfl, _, .of (s7.at hF6)⟩, _, rfl, _, rfl, by show 3 ≤ sizeLine; decide, fun p1 hp1 => ⟨_, rfl, _, rfl, _, rfl, _, rfl, by show 4 ≤ sizeLine; decide, fun p2 hp2 => ⟨by show 2 ≤ sizeLine; decide, fun p3 hp3 => ?_⟩⟩⟩
            obtain ⟨s8, r8⟩ := row_mk (d := .put n j) (s := ⟨st.begun, st.due, some (j : Int), servedM ed st.row (some (j : Int)) st.ents⟩) hp1 (Same.refl _) hp2 hp3 (mono_ents.go (Keep.new hp1) hu)
            obtain ⟨s9, f9⟩ := fnd_add s6 hF (s7.trans s8) hF6 pf6 r8
            refine ⟨F, xs6, .ref p3, rfl, rfl, s8.at (s7.at hF6), fnd_len pf6 ?_, _, _, rfl, s9, ?_, ?_⟩
            · rw [List.length_append, List.length_map]; omega
            · rw [upd_ne nne]; exact (s7.trans s8).at hn6
            · have e1 : putRow S st n j = (.put n j, ⟨st.begun, st.due, some (j : Int), servedM ed st.row (some (j : Int)) st.ents⟩) := by unfold putRow; rw [getD_of hed]
              show FndT _ F (_ ++ [putRow S st n j])
              rw [e1]
              exact f9
          · rw [if_neg cn]
            refine ifF (Bool.eq_false_iff.mpr cn) ⟨_, _, rfl, s6, hn6, xs6, hF6, ?_⟩
            rw [List.map_nil, List.append_nil]; exact pf6
        · rintro σ' H6 ⟨v2, v3, rfl, s6, hn6, f6⟩
          refine ⟨_, _, _, rfl, s6, hn6, ?_⟩
          rw [flat_succ hn, ← List.append_assoc, hB]
          exact f6
      · rintro σ' H5 ⟨v1, v2, v3, rfl, s5, hn5, f5⟩
        rw [List.length_map, List.take_length] at f5
        exact hRR _ _ ⟨_, _, _, rfl, s5, f5⟩
    · rintro σ' H5 ⟨v1, v2, v3, rfl, s5, xs5, hF5, pf5⟩
      exact ⟨_, rfl, k _ _ s5 ⟨F, xs5, rfl, hF5, pf5⟩⟩
end
end EL

set_option maxHeartbeats 4000000
namespace EL
open PySem L2
/-! ### things that may stand as a deed -/
inductive Th where
  | tup (vs : List V)
  | lst (vs : List V)
  | int (i : Int)
  | non
  deriving DecidableEq
def ThT (H : Hp) (v : V) : Th → Prop
  | .tup vs => ∃ a, v = .ref a ∧ H a = some (.tup vs)
  | .lst vs => ∃ a, v = .ref a ∧ H a = some (.lst vs)
  | .int i => v = .int i
  | .non => v = .non
def numV : V → Bool
  | .int _ => true
  | .bl _ => true
  | _ => false
def OkTh : Th → Prop
  | .tup [] => True
  | .tup (v :: r) => (∃ x, v = .str x ∧ PyData.strOk x = true) ∧ r.all numV = true ∧ r.length ≤ 10
  | _ => True
def intV : V → Bool
  | .int _ => true
  | _ => false
def isDeed : Th → Bool
  | .tup (_ :: r) => r.all intV
  | _ => false
def Deed.th (d : Deed) : Th := .tup d.vals
theorem okTh_deed (d : Deed) : OkTh d.th := by
  cases d with
  | begin => exact ⟨⟨_, rfl, by decide +kernel⟩, rfl, by decide⟩
  | visit => exact ⟨⟨_, rfl, by decide +kernel⟩, rfl, by decide⟩
  | cut n => exact ⟨⟨_, rfl, by decide +kernel⟩, rfl, by show 1 ≤ 10; decide⟩
  | put n v => exact ⟨⟨_, rfl, by decide +kernel⟩, rfl, by show 2 ≤ 10; decide⟩
theorem isDeed_deed (d : Deed) : isDeed d.th = true := by cases d <;> rfl
theorem thT_deed {H : Hp} {v : V} {d : Deed} (h : DeedT H v d) : ThT H v d.th := h
theorem thT_same {H H' : Hp} (s : Same H H') {v : V} {t : Th} (h : ThT H v t) : ThT H' v t := by
  cases t with
  | tup vs => obtain ⟨a, e, q⟩ := h; exact ⟨a, e, s.at q⟩
  | lst vs => obtain ⟨a, e, q⟩ := h; exact ⟨a, e, s.at q⟩
  | int i => exact h
  | non => exact h
theorem flat_num : ∀ {v : V}, numV v = true → flat4 v = true
  | .int _, _ => rfl
  | .bl _, _ => rfl
  | .non, h => nomatch h
  | .str _, h => nomatch h
  | .ref _, h => nomatch h
  | .ty _, h => nomatch h
  | .byt _, h => nomatch h
  | .flt _, h => nomatch h
theorem flat_th {vs : List V} (h : OkTh (.tup vs)) : vs.all flat4 = true := by
  cases vs with
  | nil => rfl
  | cons v r =>
    obtain ⟨⟨x, rfl, hx⟩, h2, _⟩ := h
    rw [List.all_cons, Bool.and_eq_true]
    exact ⟨hx, List.all_eq_true.mpr fun z hz => flat_num (List.all_eq_true.mp h2 z hz)⟩
theorem num_cases {v : V} (h : numV v = true) : (∃ i, v = .int i) ∨ ∃ b, v = .bl b := by
  cases v with
  | int i => exact .inl ⟨i, rfl⟩
  | bl b => exact .inr ⟨b, rfl⟩
  | non => cases h
  | str _ => cases h
  | ref _ => cases h
  | ty _ => cases h
  | byt _ => cases h
  | flt _ => cases h
section
variable {P : Program} {w : World} {K : PySem.W.Frag} {mg : Str → Option Value} {base : Heap} {C aW aX f : Addr} {fd : FuncData}
abbrev sIsDeed : Stmt := top 33
def spIsDeed : Sp := fun vs H Q _ => ∃ (x : V) (t : Th), vs = [x] ∧ ThT H x t ∧ OkTh t ∧ ∀ H', Same H H' → Q (.bl (isDeed t)) H'
theorem scIsDeed : FnScope ["value", "one"] ["value"] (defScope sIsDeed) := ⟨rfl, rfl, rfl, by decide +kernel, rfl, by decide +kernel, by decide +kernel⟩
theorem ok_is_deed (F : Fun K "is_deed" "is_deed" sIsDeed f fd) (T : Txt K mg C aW aX) :
    FnOk P w K mg base CX0 2 f fd ["value"] spIsDeed := by
  refine F.ok scIsDeed (fun vs H Q E h => ?_) (fun cdv A outer s H vs Q E hr h => ?_)
  · obtain ⟨_, _, rfl, _⟩ := h; rfl
  · obtain ⟨x, t, rfl, ht, ok, k⟩ := h
    have nd := scIsDeed.nd
    refine ⟨_, (pss_cons (ps_if (PW.pt (pw_or (pt_not (pt_val (pe_callB (kIsi K) (by rfl) T.n_isinstance (by decide +kernel) (pa_cons (pv 0) (pa_cons (pe_bltn (v := .ty "tuple") (u := .type "tuple") (by rfl) T.n_tuple (by decide +kernel) rfl) pa_nil))))) (pw_or (pt_cmpR (kEqD K rfl hr.units) (pv 0) (pe_tup pa_nil) (nomark _)) (pw_or1 (pt_not (pt_val (pe_callB (kIsi K) (by rfl) T.n_isinstance (by decide +kernel) (pa_cons (pe_ix (kIxT K) (pv 0) pe_int (fun _ _ => rfl)) (pa_cons (pe_bltn (v := .ty "str") (u := .type "str") (by rfl) T.n_str (by decide +kernel) rfl) pa_nil))))))))) (pss_one (ps_ret pe_bl)) pss_nil)
      (pss_one (ps_ret (pe_callB (kAll K rfl rfl) (by rfl) T.n_all (by decide +kernel) (pa_cons (pe_lc  (own := [("one", 1)]) rfl nd (kPiT K rfl (pe_slice (kSlA K) (pv 0) (po_some pe_int) po_none)) (blkOk_by (by kernel_rfl)) (fun _ _ _ _ _ => (pg_name (i := 1) nd rfl (by first | exact Or.inl rfl | exact Or.inr rfl))) (fun _ _ _ _ _ => pts_nil) (fun _ _ _ _ _ => (pe_and (pe_callB (kIsi K) (by rfl) T.n_isinstance (by decide +kernel) (pa_cons (pv 1) (pa_cons (pe_bltn (v := .ty "int") (u := .type "int") (by rfl) T.n_int (by decide +kernel) rfl) pa_nil))) (pe_one (pe_not (pe_callB (kIsi K) (by rfl) T.n_isinstance (by decide +kernel) (pa_cons (pv 1) (pa_cons (pe_bltn (v := .ty "bool") (u := .type "bool") (by rfl) T.n_bool (by decide +kernel) rfl) pa_nil)))))))) pa_nil))))), ?_⟩
    cases t with
    | int i =>
      have e : x = .int i := ht
      subst e
      exact ⟨_, rfl, _, _, _, _, false, rfl, .ty "tuple", .base (.int i), kit_ty (by decide +kernel), false, rfl, ifT rfl (ifT rfl (k _ (Same.refl _)))⟩
    | non =>
      have e : x = .non := ht
      subst e
      exact ⟨_, rfl, _, _, _, _, false, rfl, .ty "tuple", .base .non, kit_ty (by decide +kernel), false, rfl, ifT rfl (ifT rfl (k _ (Same.refl _)))⟩
    | lst vs =>
      obtain ⟨a, rfl, ha⟩ := ht
      exact ⟨_, rfl, _, _, _, _, false, rfl, .ty "tuple", .base (.lst ha), kit_ty (by decide +kernel), false, rfl, ifT rfl (ifT rfl (k _ (Same.refl _)))⟩
    | tup vs =>
      obtain ⟨a, rfl, ha⟩ := ht
      have fl := flat_th ok
      refine ⟨_, rfl, _, _, _, _, true, rfl, .ty "tuple", .base (.tup ha), kit_ty (by decide +kernel), true, rfl, ifF rfl ?_⟩
      refine ⟨_, rfl, by show 0 ≤ sizeLine; decide, fun p hp => ⟨_, .tuple [], .tup (.of ((Same.new hp).at ha)) (dps_flat fl), .tup (.of upd_same) .nil, (shp_flats fl).go, (Shp.tup (n := 0) (ds := []) (by intro d h; cases h)).go, _, rfl, ?_⟩⟩
      have s1 : Same H (upd H p (.tup [])) := Same.new hp
      cases vs with
      | nil => exact ifT (by simp [PyData.eqv, PyData.eqvAll]) (ifT rfl (k _ s1))
      | cons v r =>
        obtain ⟨⟨z, rfl, hz⟩, hn, hl⟩ := ok
        refine ifF (by simp [PyData.eqv, PyData.eqvAll]) ?_
        refine ⟨_, rfl, a, _, _, _, rfl, rfl, .of (s1.at ha), atI_nat (j := 0) rfl, _, _, _, _, true, rfl, .ty "str", .base (.str _), kit_ty (by decide +kernel), true, rfl, ifF rfl ?_⟩
        refine ⟨_, rfl, _, rfl, noP (slA_intro (s1.at ha) fun c H1 s2 hc => ?_)⟩
        rw [show (some (1 : Int)) = some ((1 : Nat) : Int) from rfl, cut_lo, List.drop_one, List.tail_cons] at hc
        refine ⟨c, rfl, ⟨_, .of hc⟩, fun D hD => lc_tup (K := K) (a := c) (xs := r) (fun i H' => Same H1 H' ∧ H' D = some (.lst (((r.take i).map fun v => V.bl (intV v))))) ⟨Same.new hD, upd_same⟩ (fun i H' _ h => SqT.of (h.1 _ _ hc)) ?_ ?_⟩
        · rintro i y H' hi ⟨s3, h3⟩
          have hy := List.all_eq_true.mp hn y (List.mem_of_getElem? hi)
          have hil := lt_of_at hi
          have fin : ∀ H', Same H1 H' → H' D = some (.lst (((r.take i).map fun v => V.bl (intV v)))) → ∃ acc, H' D = some (.lst acc) ∧ acc.length < sizeLine ∧ Same H1 (upd H' D (.lst (acc ++ [V.bl (intV y)]))) ∧ (upd H' D (.lst (acc ++ [V.bl (intV y)]))) D = some (.lst ((r.take (i + 1)).map fun v => V.bl (intV v))) := by
            intro H' s3 h3
            refine ⟨_, h3, ?_, Same.own s3 hD, ?_⟩
            · rw [List.length_map, List.length_take]; exact small1000 (by omega)
            · rw [take_succ hi, List.map_append]; exact upd_same
          rcases num_cases hy with ⟨j, rfl⟩ | ⟨b, rfl⟩
          · refine ⟨rfl, yes (ifT rfl ⟨_, rfl, _, _, _, _, true, rfl, .ty "int", .base (.int j), kit_ty (by decide +kernel), true, rfl, ifT rfl ⟨_, rfl, _, _, _, _, false, rfl, .ty "bool", .base (.int j), kit_ty (by decide +kernel), false, rfl, ?_⟩⟩)⟩
            exact fin _ s3 h3
          · refine ⟨rfl, yes (ifT rfl ⟨_, rfl, _, _, _, _, true, rfl, .ty "int", .base (.bl b), kit_ty (by decide +kernel), true, rfl, ifT rfl ⟨_, rfl, _, _, _, _, true, rfl, .ty "bool", .base (.bl b), kit_ty (by decide +kernel), true, rfl, ?_⟩⟩)⟩
            exact fin _ s3 h3
        · rintro H' ⟨s3, h3⟩
          rw [List.take_length] at h3
          have h4 : H' D = some (.lst ((r.map intV).map V.bl)) := h3.trans (by rw [List.map_map]; rfl)
          refine ⟨D, r.map intV, rfl, .of h4, ?_⟩
          rw [List.all_map]
          exact k _ ((s1.trans s2).trans s3)
/-! ### done -/
def keyV : V → Bool
  | .int _ => true
  | .str _ => true
  | _ => false
theorem key_cases {v : V} (h : keyV v = true) : (∃ i, v = .int i) ∨ ∃ b, v = .str b := by
  cases v with
  | int i => exact .inl ⟨i, rfl⟩
  | str b => exact .inr ⟨b, rfl⟩
  | non => cases h
  | bl _ => cases h
  | ref _ => cases h
  | ty _ => cases h
  | byt _ => cases h
  | flt _ => cases h
theorem eqv_key {x y : V} (hx : keyV x = true) (hy : keyV y = true) : PyData.eqv (dV x) (dV y) = decide (x = y) := by
  rcases key_cases hx with ⟨i, rfl⟩ | ⟨i, rfl⟩ <;> rcases key_cases hy with ⟨j, rfl⟩ | ⟨j, rfl⟩
  all_goals
    rw [Bool.eq_iff_iff]
    simp [dV, PyData.eqv]
theorem eqvAll_key : ∀ {xs ys : List V}, xs.all keyV = true → ys.all keyV = true → PyData.eqvAll (xs.map dV) (ys.map dV) = decide (xs = ys)
  | [], [], _, _ => by simp [PyData.eqvAll]
  | [], _ :: _, _, _ => by simp [PyData.eqvAll]
  | _ :: _, [], _, _ => by simp [PyData.eqvAll]
  | x :: xs, y :: ys, hx, hy => by
    rw [List.all_cons, Bool.and_eq_true] at hx hy
    simp only [List.map_cons, PyData.eqvAll]
    rw [eqv_key hx.1 hy.1, eqvAll_key hx.2 hy.2]
    simp
def hits (t : Th) (r : Deed × Sta) : Bool := decide (r.1.th = t)
def doneL (S : Sch) (l : Nat) (s : Sta) (t : Th) : List Sta := if isDeed t = true then ((rowsIn S l s).filter (hits t)).map Prod.snd else []
def doneM (S : Sch) (l : Nat) (s : Sta) (t : Th) : Option Sta := (doneL S l s t).head?
def OptT (H : Hp) (v : V) : Option Sta → Prop
  | none => v = .non
  | some s => StaT H v s
theorem key_int : ∀ {v : V}, intV v = true → keyV v = true
  | .int _, _ => rfl
  | .bl _, h => nomatch h
  | .non, h => nomatch h
  | .str _, h => nomatch h
  | .ref _, h => nomatch h
  | .ty _, h => nomatch h
  | .byt _, h => nomatch h
  | .flt _, h => nomatch h
theorem key_th {vs : List V} (ok : OkTh (.tup vs)) (h : isDeed (.tup vs) = true) : vs.all keyV = true := by
  cases vs with
  | nil => rfl
  | cons v r =>
    obtain ⟨⟨x, rfl, _⟩, _⟩ := ok
    rw [List.all_cons, Bool.and_eq_true]
    exact ⟨rfl, List.all_eq_true.mpr fun z hz => key_int (List.all_eq_true.mp h z hz)⟩
theorem isDeed_tup {t : Th} (h : isDeed t = true) : ∃ vs, t = .tup vs := by
  cases t with
  | tup vs => exact ⟨vs, rfl⟩
  | lst vs => cases h
  | int i => cases h
  | non => cases h
theorem hits_eqv {d : Deed} {s : Sta} {vs : List V} (ok : OkTh (.tup vs)) (h : isDeed (.tup vs) = true) : PyData.eqv (dDeed d) (.tuple (vs.map dV)) = hits (.tup vs) (d, s) := by
  unfold dDeed hits
  rw [PyData.eqv, eqvAll_key (key_th (okTh_deed d) (isDeed_deed d)) (key_th ok h)]
  unfold Deed.th
  simp
abbrev sDone : Stmt := top 34
def spDone (C : Addr) : Sp := fun vs H Q _ => ∃ (x v y : V) (S : Sch) (st : Sta) (l : Nat) (t : Th), vs = [x, .int l, v, y] ∧ SchT C H x S ∧ OkSch S ∧ StaT H v st ∧ OkSta S st ∧ ThT H y t ∧ OkTh t ∧
  ∀ H' u, Same H H' → OptT H' u (doneM S l st t) → Q u H'
theorem scDone : FnScope ["schedule", "lag", "state", "deed", "some", "row"] ["schedule", "lag", "state", "deed"] (defScope sDone) := ⟨rfl, rfl, rfl, by decide +kernel, rfl, by decide +kernel, by decide +kernel⟩
theorem ok_done (F : Fun K "done" "done" sDone f fd) (T : Txt K mg C aW aX) (c_is_deed : Ca P w K mg base CX0 2 "is_deed" ["value"] spIsDeed) (c_rows_in : Ca P w K mg base CX0 4 "rows_in" ["schedule", "lag", "state"] (spRowsIn C)) :
    FnOk P w K mg base CX0 5 f fd ["schedule", "lag", "state", "deed"] (spDone C) := by
  refine F.ok scDone (fun vs H Q E h => ?_) (fun cdv A outer s H vs Q E hr h => ?_)
  · obtain ⟨_, _, _, _, _, _, _, rfl, _⟩ := h; rfl
  · obtain ⟨x, v, y, S, st, l, t, rfl, hS, okS, hV, ok, hY, okT, k⟩ := h
    have nd := scDone.nd
    refine ⟨_, (pss_cons (ps_set (i := 4) nd rfl (by first | exact Or.inl rfl | exact Or.inr rfl) (pe_ifExp (pt_val (pe_ca c_is_deed (hr.mono (by decide)) (by rfl) pass0 (pa_cons (pv 3) pa_nil))) (pe_lc  (own := [("row", 5)]) rfl nd (kPiL K rfl (pe_ca c_rows_in (hr.mono (by decide)) (by rfl) pass0 (pa_cons (pv 0) (pa_cons (pv 1) (pa_cons (pv 2) pa_nil))))) (blkOk_by (by kernel_rfl)) (fun _ _ _ _ _ => (pg_name (i := 5) nd rfl (by first | exact Or.inl rfl | exact Or.inr rfl))) (fun _ _ _ _ _ => (pts_one (pt_cmpR (kEqD K rfl hr.units) (pe_ix (kIxT K) (pv 5) pe_int (fun _ _ => rfl)) (pv 3) (nomark _)))) (fun _ _ _ _ _ => (pe_ix (kIxT K) (pv 5) pe_int (fun _ _ => rfl)))) (pe_lst pa_nil)))
      (pss_one (ps_ret (pe_ifExp (pt_cmpR (kNeD K rfl hr.units) (pv 4) (pe_lst pa_nil) (nomark _)) (pe_ix (kIxL K) (pv 4) pe_int (fun _ _ => rfl)) pe_non)))), ?_⟩
    refine seq_cut (fun σ' H' => ∃ (p : Addr) (xs : List V), σ' = [some x, some (.int l), some v, some y, some (.ref p), none] ∧ Same H H' ∧ H' p = some (.lst xs) ∧ Paired (StaT H') xs (doneL S l st t)) (fun R hRR => ?_) ?_
    · refine ⟨_, rfl, y, t, rfl, hY, okT, fun H1 s1 => ⟨isDeed t, rfl, ?_⟩⟩
      cases hd : isDeed t with
      | false =>
        refine ifF rfl ⟨by show 0 ≤ sizeLine; decide, fun p hp => hRR _ _ ⟨p, [], rfl, s1.trans (Same.new hp), upd_same, ?_⟩⟩
        unfold doneL; rw [if_neg (by rw [hd]; decide)]; exact .nil
      | true =>
        obtain ⟨vs, rfl⟩ := isDeed_tup hd
        obtain ⟨ya, rfl, hya⟩ := id hY
        have fl := flat_th okT
        refine ifT rfl ⟨_, rfl, _, rfl, _, rfl, x, v, S, st, l, rfl, sch_keep (Keep.of s1) hS, okS, mono_sta.go (Keep.of s1) hV, ok, fun H2 u s2 ⟨b, xs, e, hb, pb⟩ => ?_⟩
        subst e
        have lx := pb.e_len
        have l54 := len_rows okS l st
        have s12 := s1.trans s2
        refine ⟨b, rfl, ⟨_, .of hb⟩, fun D hD => lc_list (K := K) (a := b) (xs := xs) (fun i H' => Same H2 H' ∧ ∃ zs, H' D = some (.lst zs) ∧ Paired (StaT H') zs ((((rowsIn S l st).take i).filter (hits (.tup vs))).map Prod.snd)) ⟨Same.new hD, [], upd_same, .nil⟩ (fun i H' _ h => SqL.of (h.1 _ _ hb)) ?_ ?_⟩
        · rintro i z H' hi ⟨s3, zs, hz, pz⟩
          obtain ⟨⟨d, s'⟩, hr2, c, zd, zs2, rfl, hc, dd, ds⟩ := pb.e_at hi
          have hil := lt_of_at hi
          have k3 := Keep.of s3
          refine ⟨rfl, _, rfl, c, _, _, _, rfl, rfl, .of (s3.at hc), at0, _, rfl, dDeed d, .tuple (vs.map dV), dp_deed (mono_deed.go k3 dd), .tup (.of (s3.at (s12.at hya))) (dps_flat fl), (shp_deed d).go, (shp_flats fl).go, _, rfl, ?_⟩
          rw [hits_eqv (s := s') okT hd, take_succ hr2, List.filter_append]
          have lz : zs.length ≤ 54 := by
            rw [pz.e_len, List.length_map]
            refine Nat.le_trans (List.length_filter_le _ _) ?_
            rw [List.length_take]; omega
          by_cases ch : hits (.tup vs) (d, s') = true
          · refine ifT ch ⟨_, rfl, c, _, _, _, rfl, rfl, .of (s3.at hc), at1, zs, hz, small1000 (by omega), Same.own s3 hD, zs ++ [zs2], upd_same, ?_⟩
            have kk : Keep H' (upd H' D (.lst (zs ++ [zs2]))) := Keep.lst hz
            rw [List.filter_cons, if_pos ch, List.map_append]
            exact (mono_paired mono_sta kk pz).e_snoc (mono_sta.go (k3.trans kk) ds)
          · refine ifF (Bool.eq_false_iff.mpr ch) ⟨s3, zs, hz, ?_⟩
            rw [List.filter_cons, if_neg ch, List.filter_nil, List.append_nil]
            exact pz
        · rintro H' ⟨s3, zs, hz, pz⟩
          rw [lx, List.take_length] at pz
          refine hRR _ _ ⟨D, zs, rfl, s12.trans s3, hz, ?_⟩
          unfold doneL; rw [if_pos hd]; exact pz
    · rintro σ' H1 ⟨p, xs, rfl, s1, hp, px⟩
      refine ⟨_, rfl, by show 0 ≤ sizeLine; decide, fun p2 hp2 => ?_⟩
      have s2 : Same H1 (upd H1 p2 (.lst [])) := Same.new hp2
      have px2 := mono_paired mono_sta (Keep.of s2) px
      have hl : LstOf StaT (upd H1 p2 (.lst [])) (.ref p) (doneL S l st t) := ⟨p, xs, rfl, s2.at hp, px2⟩
      refine ⟨.list ((doneL S l st t).map dSta), .list [], dp_list (fun _ _ q => dp_sta q) hl, .lst (.of upd_same) .nil, (shp_list shp_sta _).go, (Shp.lst (n := 0) (ds := []) (by intro d h; cases h)).go, _, rfl, ?_⟩
      have e : doneM S l st t = (doneL S l st t).head? := rfl
      cases hdl : doneL S l st t with
      | nil =>
        refine ifF (by simp [PyData.eqv, PyData.eqvAll]) (k _ _ (s1.trans s2) ?_)
        rw [e, hdl]; rfl
      | cons z r =>
        refine ifT (by simp [PyData.eqv, PyData.eqvAll]) ?_
        rw [hdl] at px2
        cases px2 with
        | cons q1 q2 =>
          refine ⟨_, rfl, p, _, _, _, rfl, rfl, .of (s2.at hp), atI_nat (j := 0) rfl, k _ _ (s1.trans s2) ?_⟩
          rw [e, hdl]; exact q1
end
end EL

set_option maxHeartbeats 4000000
namespace EL
open PySem L2
/-! ### breaks -/
def wordAt (S : Sch) (n i : Nat) : Str := (S.every.getD n []).getD i ""
def wordsAt (S : Sch) (l : Nat) (s : Sta) (i : Nat) : List Str := (win S s.begun l).map fun n => wordAt S n i
def missB (S : Sch) (l : Nat) (s : Sta) (i : Nat) (e : List Int) : Bool := decide (("public" : Str) ∈ wordsAt S l s i) && (match s.row with | none => false | some v => !decide (v ∈ e))
def strayB (S : Sch) (l : Nat) (s : Sta) (i : Nat) (e : List Int) : Bool := decide (("public" : Str) ∈ wordsAt S l s i) && !decide (outV e s.row = [])
def goneB (S : Sch) (l : Nat) (s : Sta) (i : Nat) : Bool := (wordsAt S l s i).all fun w => decide (w = ("absent" : Str))
def leftB (S : Sch) (l : Nat) (s : Sta) (i : Nat) (e : List Int) : Bool := decide (s.begun = S.steps.length) && !s.due && goneB S l s i && !decide (e = [])
def anyE (f : Nat → List Int → Bool) (es : List (List Int)) (m : Nat) : Bool := (List.range m).any fun i => f i (es.getD i [])
def wish3 (L M T : Bool) : List Str := (if L then [("left" : Str)] else []) ++ (if M then [("missed" : Str)] else []) ++ (if T then [("stray" : Str)] else [])
def breaksM (S : Sch) (l : Nat) (s : Sta) : List Str := wish3 (anyE (leftB S l s) s.ents s.ents.length) (anyE (missB S l s) s.ents s.ents.length) (anyE (strayB S l s) s.ents s.ents.length)
theorem anyE_succ {f : Nat → List Int → Bool} {es : List (List Int)} {i : Nat} {e : List Int} (h : es[i]? = some e) : anyE f es (i + 1) = (anyE f es i || f i e) := by
  unfold anyE
  rw [List.range_succ, List.any_append, List.any_cons, List.any_nil, Bool.or_false, getD_of h]
/-- the dict of what was found -/
def Fnd3 (H : Hp) (F : Addr) (n : Nat) (L M T : Bool) : Prop := ∃ kvs : List (Key × V), H F = some (.dK kvs) ∧ kvs.length ≤ n ∧ (valV kvs (.inr "left")).isSome = L ∧ (valV kvs (.inr "missed")).isSome = M ∧ (valV kvs (.inr "stray")).isSome = T
theorem Fnd3.put {H : Hp} {F : Addr} {n : Nat} {L M T : Bool} {kvs : List (Key × V)} (k : Str) (v : V) (hl : kvs.length ≤ n) (h1 : (valV kvs (.inr "left")).isSome = L) (h2 : (valV kvs (.inr "missed")).isSome = M) (h3 : (valV kvs (.inr "stray")).isSome = T) :
    Fnd3 (upd H F (.dK (putK kvs (.inr k) v))) F (n + 1) (decide (k = "left") || L) (decide (k = "missed") || M) (decide (k = "stray") || T) := by
  refine ⟨_, upd_same, Nat.le_trans (length_putK _ _ _) (by omega), ?_, ?_, ?_⟩
  all_goals rw [valV_put]
  · by_cases q : k = "left"
    · subst q; simp
    · rw [if_neg (fun e => q (Sum.inr.inj e).symm), h1]; simp [q]
  · by_cases q : k = "missed"
    · subst q; simp
    · rw [if_neg (fun e => q (Sum.inr.inj e).symm), h2]; simp [q]
  · by_cases q : k = "stray"
    · subst q; simp
    · rw [if_neg (fun e => q (Sum.inr.inj e).symm), h3]; simp [q]
section
variable {P : Program} {w : World} {K : PySem.W.Frag} {mg : Str → Option Value} {base : Heap} {C aW aX f : Addr} {fd : FuncData}
abbrev sBreaks : Stmt := top 35
def spBreaks (C : Addr) : Sp := fun vs H Q _ => ∃ (x v : V) (S : Sch) (st : Sta) (l : Nat), vs = [x, .int l, v] ∧ SchT C H x S ∧ OkSch S ∧ StaT H v st ∧ OkSta S st ∧
  ∀ H' p, Same H H' → H' p = some (.lst ((breaksM S l st).map V.str)) → Q (.ref p) H'
theorem scBreaks : FnScope ["schedule", "lag", "state", "begun", "is_due", "row", "entries", "words", "found", "some", "here", "is_gone", "index", "wish", "number", "word"] ["schedule", "lag", "state"] (defScope sBreaks) := ⟨rfl, rfl, rfl, by decide +kernel, rfl, by decide +kernel, by decide +kernel⟩
theorem ok_breaks (F : Fun K "breaks" "breaks" sBreaks f fd) (T : Txt K mg C aW aX) (c_window_at : Ca P w K mg base CX0 3 "window_at" ["schedule", "begun", "lag"] (spWindow C))
    (c_without : Ca P w K mg base CX0 1 "without" ["some", "value"] spWithout) (p_steps : Pr P w K mg base C 1 "steps" (spProp C 2)) :
    FnOk P w K mg base CX0 5 f fd ["schedule", "lag", "state"] (spBreaks C) := by
  refine F.ok scBreaks (fun vs H Q E h => ?_) (fun cdv A outer s H vs Q E hr h => ?_)
  · obtain ⟨_, _, _, _, _, rfl, _⟩ := h; rfl
  · obtain ⟨x, v, S, st, l, rfl, hS, okS, hV, ok, k⟩ := h
    have nd := scBreaks.nd
    obtain ⟨a, dx, r, x, y, e, rfl, ha, hR, hx, ⟨c, ys, rfl, hc, pc⟩, ⟨q, es, rfl, hq, pq⟩⟩ := id hS
    obtain ⟨sa, se, rfl, hs, hE⟩ := hV
    obtain ⟨ea, xs, rfl, hea, pe⟩ := id hE
    have ly := pc.e_len
    have lx := pe.e_len
    have lf := okS.first.len
    have h60 : st.ents.length ≤ 2 := by have := ok.len; rcases lf with q | q <;> omega
    refine ⟨_, (pss_cons (ps_asg (pv 2) (kTg K (n := 4) rfl rfl (pgs_cons (pg_name (i := 3) nd rfl (by first | exact Or.inl rfl | exact Or.inr rfl)) (pgs_cons (pg_name (i := 4) nd rfl (by first | exact Or.inl rfl | exact Or.inr rfl)) (pgs_cons (pg_name (i := 5) nd rfl (by first | exact Or.inl rfl | exact Or.inr rfl)) (pgs_cons (pg_name (i := 6) nd rfl (by first | exact Or.inl rfl | exact Or.inr rfl)) pgs_nil))))))
      (pss_cons (ps_setLc (i := 7) (own := [("index", 12)]) rfl nd rfl rfl (sw_true rfl rfl rfl (by decide +kernel)) (pi_range1 (by rfl) T.n_range (pa_cons (pe_callB (kLen K) (by rfl) T.n_len PySem.boot_len (pa_cons (pv 6) pa_nil)) pa_nil)) (blkOk_by (by kernel_rfl)) (fun _ _ _ _ _ => (pg_name (i := 12) nd rfl (by first | exact Or.inl rfl | exact Or.inr rfl))) (fun _ _ _ _ _ => pts_nil) (fun _ _ _ _ _ => (pe_lc  (own := [("number", 14)]) rfl nd (kPiL K rfl (pe_ca c_window_at (hr.mono (by decide)) (by rfl) pass0 (pa_cons (pv 0) (pa_cons (pv 3) (pa_cons (pv 1) pa_nil))))) (blkOk_by (by kernel_rfl)) (fun _ _ _ _ _ => (pg_name (i := 14) nd rfl (by first | exact Or.inl rfl | exact Or.inr rfl))) (fun _ _ _ _ _ => pts_nil) (fun _ _ _ _ _ => (pe_ix (kIxT K) (pe_ix (kIxT K) (kFld K rfl (pv 0)) (pv 14) (fun _ _ => rfl)) (pv 12) (fun _ _ => rfl))))))
      (pss_cons (ps_set (i := 8) nd rfl (by first | exact Or.inl rfl | exact Or.inr rfl) pe_dnewK)
      (pss_cons (ps_for PassesOwn.never rfl (pi_zipM (by rfl) T.n_zip (pa_cons (pv 7) (pa_cons (pv 6) pa_nil))) (kTg K (n := 2) rfl rfl (pgs_cons (pg_name (i := 9) nd rfl (by first | exact Or.inl rfl | exact Or.inr rfl)) (pgs_cons (pg_name (i := 10) nd rfl (by first | exact Or.inl rfl | exact Or.inr rfl)) pgs_nil))) (pss_cons (ps_if (PW.pt (pw_and (pt_cmpR (kIn K) pe_str (pv 9) rfl) (pw_and (pt_cmp (pc_notN (pv 5))) (pw_and1 (pt_cmpR (kNotIn K) (pv 5) (pv 10) rfl))))) (pss_one (ps_dput (hu_of hr) (pv 8) pe_str pe_bl rfl)) pss_nil)
      (pss_cons (ps_if (PW.pt (pw_and (pt_cmpR (kIn K) pe_str (pv 9) rfl) (pw_and1 (pt_cmpR (kNeD K rfl hr.units) (pe_ca c_without (hr.mono (by decide)) (by rfl) pass0 (pa_cons (pv 10) (pa_cons (pv 5) pa_nil))) (pe_tup pa_nil) (nomark _))))) (pss_one (ps_dput (hu_of hr) (pv 8) pe_str pe_bl rfl)) pss_nil)
      (pss_cons (ps_set (i := 11) nd rfl (by first | exact Or.inl rfl | exact Or.inr rfl) (pe_callB (kAll K rfl rfl) (by rfl) T.n_all (by decide +kernel) (pa_cons (pe_lc  (own := [("word", 15)]) rfl nd (kPiL K rfl (pv 9)) (blkOk_by (by kernel_rfl)) (fun _ _ _ _ _ => (pg_name (i := 15) nd rfl (by first | exact Or.inl rfl | exact Or.inr rfl))) (fun _ _ _ _ _ => pts_nil) (fun _ _ _ _ _ => (pe_cmpR op_eq (pv 15) pe_str (nomark _)))) pa_nil)))
      (pss_one (ps_if (PW.pt (pw_and (pt_cmpR op_eq (pv 3) (pe_callB (kLen K) (by rfl) T.n_len PySem.boot_len (pa_cons (pe_pr p_steps T.cl (hr.mono (by decide)) (pv 0)) pa_nil)) (nomark _)) (pw_and (pt_not (pt_val (pv 4))) (pw_and (pt_val (pv 11)) (pw_and1 (pt_cmpR (kNeD K rfl hr.units) (pv 10) (pe_tup pa_nil) (nomark _))))))) (pss_one (ps_dput (hu_of hr) (pv 8) pe_str pe_bl rfl)) pss_nil))))))
      (pss_one (ps_ret (pe_lc  (own := [("wish", 13)]) rfl nd (kPiT K rfl (pe_glob (v := .ref aX) (by rfl) T.g_WISHES rfl)) (blkOk_by (by kernel_rfl)) (fun _ _ _ _ _ => (pg_name (i := 13) nd rfl (by first | exact Or.inl rfl | exact Or.inr rfl))) (fun _ _ _ _ _ => (pts_one (pt_cmp (pc_din (hu_of hr) (pv 13) (pv 8))))) (fun _ _ _ _ _ => (pv 13))))))))), ?_⟩
    have wl := win_small okS.n12 st.begun l
    refine ⟨_, rfl, sa, _, rfl, .of hs, rfl, _, _, rfl, _, _, rfl, _, _, rfl, _, _, rfl, rfl, ?_⟩
    -- words
    refine ⟨_, rfl, ea, _, rfl, .inr (.of hea), _, rfl, by omega, by omega, ?_⟩
    rw [Int.toNat_natCast]
    refine fun D hD => lc_range (fun i H' => Same H H' ∧ ∃ zs, H' D = some (.lst zs) ∧ Paired (fun v j => ∃ p, v = .ref p ∧ p ≠ D ∧ H' p = some (.lst ((wordsAt S l st j).map V.str))) zs (List.range i)) ⟨Same.new hD, [], upd_same, .nil⟩ ?_ ?_
    · rintro i H1 hi ⟨s1, zs, hz, pz⟩
      rw [Int.zero_add]
      refine ⟨rfl, yes (ifT rfl ?_)⟩
      refine ⟨_, rfl, _, rfl, _, rfl, .ref a, S, st.begun, l, rfl, sch_keep (Keep.of s1) hS, okS.n12, fun H2 nu s2 hnu => ?_⟩
      have s12 := s1.trans s2
      refine ⟨nu, rfl, ⟨_, .of hnu⟩, fun D2 hD2 => lc_list (K := K) (a := nu) (xs := (win S st.begun l).map fun n => V.int (n : Nat)) (fun j H' => Same H2 H' ∧ H' D2 = some (.lst ((((win S st.begun l).take j).map fun n => wordAt S n i).map V.str))) ⟨Same.new hD2, upd_same⟩ (fun j H' _ h => SqL.of (h.1 _ _ hnu)) ?_ ?_⟩
      · rintro j z H3 hj ⟨s3, h3⟩
        obtain ⟨n, hn, rfl⟩ := map_at hj
        obtain ⟨ed, hed, led⟩ := every_at okS (win_lt (List.mem_of_getElem? hn))
        obtain ⟨ev, hev, rev⟩ := pq.e_at2 hed
        obtain ⟨eva, rfl, heva⟩ := rev
        have s13 := s12.trans s3
        have hjl := lt_of_at hn
        obtain ⟨wd, hwd⟩ : ∃ wd, ed[i]? = some wd := ⟨ed[i]'(by rw [led, ← ok.len]; omega), by simp⟩
        refine ⟨rfl, yes (ifT rfl ⟨_, rfl, a, C, dx, _, _, rfl, s13.at ha, T.cl, T.nE, lk_every _ _, _, rfl, q, es, _, _, rfl, rfl, .of (s13.at hq), atI_nat hev, _, rfl, eva, _, _, _, rfl, rfl, .of (s13.at heva), atI_nat (j := i) (v := .str wd) (by rw [List.getElem?_map, hwd]; rfl), _, h3, ?_, Same.own s3 hD2, ?_⟩)⟩
        · rw [List.length_map, List.length_map, List.length_take]; exact small1000 (by omega)
        · have ew : wordAt S n i = wd := by unfold wordAt; rw [getD_of hed, getD_of hwd]
          rw [take_succ hn, List.map_append, List.map_append, ← ew]
          exact upd_same
      · rintro H3 ⟨s3, h3⟩
        rw [List.length_map, List.take_length] at h3
        have s23 := s2.trans s3
        have lz : zs.length = i := by rw [pz.e_len, List.length_range]
        have dne : D2 ≠ D := fun e => by subst e; have := s2.at hz; rw [hD2] at this; cases this
        refine ⟨zs, s23.at hz, small1000 (by omega), (s1.trans s23).own hD, zs ++ [.ref D2], upd_same, ?_⟩
        rw [List.range_succ]
        refine Paired.e_snoc (L2.Paired.mapP pz fun v j h => ?_) ⟨D2, rfl, dne, (upd_ne dne).trans h3⟩
        obtain ⟨p, rfl, hpD, hp⟩ := h
        exact ⟨p, rfl, hpD, (upd_ne hpD).trans (s23.at hp)⟩
    rintro H1 ⟨s1, zs, hz, pz⟩
    have lz : zs.length = st.ents.length := by rw [pz.e_len, List.length_range, lx]
    -- found
    refine fun F hF => ?_
    have s2 : Same H1 (upd H1 F (.dK [])) := Same.new hF
    dsimp only
    refine seq_cut (fun σ' H' => ∃ v1 v2 v3 : Option V, σ' = [some (.ref a), some (.int l), some (.ref sa), some (.int st.begun), some (.bl st.due), some (rowV st.row), some (.ref ea), some (.ref D), some (.ref F), v1, v2, v3, none, none, none, none] ∧ Same H1 H' ∧ Fnd3 H' F 6 (anyE (leftB S l st) st.ents st.ents.length) (anyE (missB S l st) st.ents st.ents.length) (anyE (strayB S l st) st.ents st.ents.length)) (fun R hRR => ?_) ?_
    · refine ⟨_, rfl, _, rfl, D, ea, zs, xs, rfl, s2.at hz, s2.at (s1.at hea), for_it (walk_zipM (by rw [lz, lx])) 
        (fun i σ' H' => ∃ v1 v2 v3 : Option V, σ' = [some (.ref a), some (.int l), some (.ref sa), some (.int st.begun), some (.bl st.due), some (rowV st.row), some (.ref ea), some (.ref D), some (.ref F), v1, v2, v3, none, none, none, none] ∧ Same H1 H' ∧ Fnd3 H' F (3 * i) (anyE (leftB S l st) st.ents i) (anyE (missB S l st) st.ents i) (anyE (strayB S l st) st.ents i))
        ⟨none, none, none, rfl, s2, [], upd_same, Nat.le_refl _, rfl, rfl, rfl⟩ (fun i σ' H' _ ⟨_, _, _, _, s3, _⟩ => ⟨s3.at hz, s3.at (s1.at hea)⟩) ?_ ?_⟩
      · rintro i y σ' H2 H3 hi ⟨v1, v2, v3, rfl, s3, kvs, hk, lk, k1, k2, k3⟩ ⟨T1, x1, x2, rfl, hT, rfl, e1, e2⟩
        obtain ⟨j, hj, p, rfl, hpD, hp⟩ := pz.e_at e1
        have ej : i = j := by
          rw [List.getElem?_range (by omega)] at hj
          exact Option.some.inj hj
        subst ej
        obtain ⟨en, hen, ren⟩ := pe.e_at e2
        have oke := ok.ents en (List.mem_of_getElem? hen)
        have len3 := ent_len okS oke
        obtain ⟨b, rfl, hb⟩ := ren
        have s4 : Same H1 (upd H2 T1 (.tup [.ref p, .ref b])) := s3.trans (Same.new hT)
        have hF4 : (upd H2 T1 (.tup [.ref p, .ref b])) F = some (.dK kvs) := (Same.new hT).at hk
        refine ⟨T1, _, rfl, .of upd_same, rfl, _, _, rfl, _, _, rfl, rfl, ?_⟩
        have hea4 := s1.trans s4
        generalize hH4 : upd H2 T1 (.tup [.ref p, .ref b]) = H4 at s4 hF4 hea4
        have hil : i < 2 := by have := lt_of_at hen; omega
        -- missed
        refine seq_cut (fun σ' H' => σ' = [some (.ref a), some (.int l), some (.ref sa), some (.int st.begun), some (.bl st.due), some (rowV st.row), some (.ref ea), some (.ref D), some (.ref F), some (.ref p), some (.ref b), v3, none, none, none, none] ∧ Same H1 H' ∧
            Fnd3 H' F (3 * i + 1) (anyE (leftB S l st) st.ents i) (anyE (missB S l st) st.ents i || missB S l st i en) (anyE (strayB S l st) st.ents i)) (fun R hRR => ?_) ?_
        · have no : missB S l st i en = false → R [some (.ref a), some (.int l), some (.ref sa), some (.int st.begun), some (.bl st.due), some (rowV st.row), some (.ref ea), some (.ref D), some (.ref F), some (.ref p), some (.ref b), v3, none, none, none, none] H4 := fun e => hRR _ _ ⟨rfl, s4, kvs, hF4, by omega, k1, by rw [k2, e, Bool.or_false], k3⟩
          refine ⟨_, rfl, p, _, rfl, .inl (.of (s4.at hp)), rfl, flat_words _, _, rfl, ?_⟩
          by_cases cp : ("public" : Str) ∈ wordsAt S l st i
          · refine ifT (by show L2.inV _ _ = true; rw [inV_words, decide_eq_true cp]) ⟨_, rfl, _, rfl, ?_⟩
            cases hrow : st.row with
            | none =>
              have z := no (by unfold missB; rw [hrow]; simp)
              rw [hrow] at z
              exact ifF rfl (ifF rfl z)
            | some rv =>
              refine ifT rfl ⟨_, rfl, _, rfl, b, _, rfl, .inr (.of (hea4.at hb)), rfl, flat_ints _, _, rfl, ?_⟩
              by_cases cr : rv ∈ en
              · have z := no (by unfold missB; rw [hrow]; simp [cr])
                rw [hrow] at z
                exact ifF (by show (!L2.inV (V.int rv) _) = false; rw [inV_ints, decide_eq_true cr]; rfl) z
              · refine ifT (by show (!L2.inV (V.int rv) _) = true; rw [inV_ints, decide_eq_false cr]; rfl) ⟨_, rfl, F, _, rfl, .inl ⟨kvs, .inr "missed", hF4, rfl, small1000 (by omega), rfl⟩, hRR _ _ ⟨by rw [hrow]; rfl, ?_, ?_⟩⟩
                · exact s4.own hF
                · have e : missB S l st i en = true := by unfold missB; rw [hrow]; simp [cr, cp]
                  rw [e, Bool.or_true]
                  exact Fnd3.put "missed" (.bl true) lk k1 k2 k3
          · exact ifF (by show L2.inV _ _ = false; rw [inV_words, decide_eq_false cp]) (ifF rfl (no (by unfold missB; simp [cp])))
        rintro σ' H5 ⟨rfl, s5, kvs5, hF5, lk5, l1, l2, l3⟩
        -- stray
        refine seq_cut (fun σ' H' => σ' = [some (.ref a), some (.int l), some (.ref sa), some (.int st.begun), some (.bl st.due), some (rowV st.row), some (.ref ea), some (.ref D), some (.ref F), some (.ref p), some (.ref b), v3, none, none, none, none] ∧ Same H1 H' ∧
            Fnd3 H' F (3 * i + 2) (anyE (leftB S l st) st.ents i) (anyE (missB S l st) st.ents i || missB S l st i en) (anyE (strayB S l st) st.ents i || strayB S l st i en)) (fun R hRR => ?_) ?_
        · refine ⟨_, rfl, p, _, rfl, .inl (.of (s5.at hp)), rfl, flat_words _, _, rfl, ?_⟩
          by_cases cp : ("public" : Str) ∈ wordsAt S l st i
          · refine ifT (by show L2.inV _ _ = true; rw [inV_words, decide_eq_true cp]) ⟨_, rfl, _, rfl, .ref b, en, st.row, rfl, ⟨b, rfl, (s1.trans s5).at hb⟩, by omega, fun H6 u s6 hu => ?_⟩
            refine ⟨by show 0 ≤ sizeLine; decide, fun p6 hp6 => ?_⟩
            have s7 : Same H5 (upd H6 p6 (.tup [])) := s6.trans (Same.new hp6)
            refine ⟨dInts (outV en st.row), .tuple [], dp_ints (mono_ints.go (Keep.new hp6) hu), .tup (.of upd_same) .nil, (shp_ints _).go, (Shp.tup (n := 0) (ds := []) (by intro d h; cases h)).go, _, rfl, ?_⟩
            have eo : (!PyData.eqv (dInts (outV en st.row)) (.tuple [])) = !decide (outV en st.row = []) := by
              unfold dInts
              cases outV en st.row <;> simp [PyData.eqv, PyData.eqvAll]
            rw [eo]
            by_cases co : outV en st.row = []
            · refine ifF (by rw [decide_eq_true co]; rfl) (hRR _ _ ⟨rfl, s5.trans s7, kvs5, s7.at hF5, by omega, l1, l2, ?_⟩)
              rw [l3, show strayB S l st i en = false by unfold strayB; simp [co], Bool.or_false]
            · refine ifT (by rw [decide_eq_false co]; rfl) ⟨_, rfl, F, _, rfl, .inl ⟨kvs5, .inr "stray", s7.at hF5, rfl, small1000 (by omega), rfl⟩, hRR _ _ ⟨rfl, (s5.trans s7).own hF, ?_⟩⟩
              have e : strayB S l st i en = true := by unfold strayB; simp [co, cp]
              rw [e, Bool.or_true]
              exact Fnd3.put "stray" (.bl true) lk5 l1 l2 l3
          · refine ifF (by show L2.inV _ _ = false; rw [inV_words, decide_eq_false cp]) (ifF rfl (hRR _ _ ⟨rfl, s5, kvs5, hF5, by omega, l1, l2, ?_⟩))
            rw [l3, show strayB S l st i en = false by unfold strayB; simp [cp], Bool.or_false]
        rintro σ' H6 ⟨rfl, s6, kvs6, hF6, lk6, m1, m2, m3⟩
        -- is_gone
        have lW : (wordsAt S l st i).length ≤ 13 := by unfold wordsAt; rw [List.length_map]; exact wl
        refine ⟨_, rfl, p, rfl, ⟨_, .of (s6.at hp)⟩, fun D3 hD3 => lc_list (K := K) (a := p) (xs := (wordsAt S l st i).map V.str) (fun j H' => Same H6 H' ∧ H' D3 = some (.lst ((((wordsAt S l st i).take j).map fun w => decide (w = ("absent" : Str))).map V.bl))) ⟨Same.new hD3, upd_same⟩ (fun j H' _ h => SqL.of (h.1.at (s6.at hp))) ?_ ?_⟩
        · rintro j z H7 hj ⟨s7, h7⟩
          obtain ⟨wd, hwd, rfl⟩ := map_at hj
          have hjl := lt_of_at hwd
          refine ⟨rfl, yes (ifT rfl ⟨_, rfl, rfl, _, h7, ?_, s7.own hD3, ?_⟩)⟩
          · rw [List.length_map, List.length_map, List.length_take]; exact small1000 (by omega)
          · have ew : (decide (V.str wd = V.str "absent")) = decide (wd = ("absent" : Str)) := by simp
            rw [ew, take_succ hwd, List.map_append, List.map_append]
            exact upd_same
        rintro H7 ⟨s7, h7⟩
        rw [List.length_map, List.take_length] at h7
        refine ⟨D3, _, rfl, .of h7, ?_⟩
        rw [List.all_map]
        have s67 := s6.trans s7
        have s17 := s1.trans s67
        dsimp only
        -- left
        have s17' : Same H1 H7 := s67
        have hF7 := s7.at hF6
        have fin : ∀ (H' : Hp) (kvs' : List (Key × V)) (L : Bool), Same H1 H' → H' F = some (.dK kvs') → kvs'.length ≤ 3 * i + 3 → (valV kvs' (.inr "left")).isSome = (anyE (leftB S l st) st.ents i || leftB S l st i en) →
            (valV kvs' (.inr "missed")).isSome = (anyE (missB S l st) st.ents i || missB S l st i en) → (valV kvs' (.inr "stray")).isSome = (anyE (strayB S l st) st.ents i || strayB S l st i en) →
            Same H1 H' ∧ Fnd3 H' F (3 * (i + 1)) (anyE (leftB S l st) st.ents (i + 1)) (anyE (missB S l st) st.ents (i + 1)) (anyE (strayB S l st) st.ents (i + 1)) := by
          intro H' kvs' L q1 q2 q3 q4 q5 q6
          rw [anyE_succ hen, anyE_succ hen, anyE_succ hen]
          exact ⟨q1, kvs', q2, by omega, q4, q5, q6⟩
        refine ⟨_, rfl, _, rfl, a, dx, _, rfl, s17.at ha, a, dx, r, _, _, _, rfl, s17.at ha, s17.at hR, rfl, c, ys, rfl, .inr (.of (s17.at hc)), rfl, _, rfl, ?_⟩
        by_cases cb : st.begun = S.steps.length
        · refine ifT (decide_eq_true (by rw [ly, cb])) ⟨_, rfl, st.due, rfl, ?_⟩
          cases hd : st.due with
          | true =>
            refine ifF rfl (ifF rfl ⟨_, _, _, rfl, fin _ kvs6 true s67 hF7 (by omega) ?_ m2 m3⟩)
            rw [m1, show leftB S l st i en = false by unfold leftB; simp [hd], Bool.or_false]
          | false =>
            refine ifT rfl ⟨_, rfl, _, rfl, ?_⟩
            have eg : (wordsAt S l st i).all (id ∘ fun w => decide (w = ("absent" : Str))) = goneB S l st i := rfl
            by_cases cg : goneB S l st i = true
            · refine ifT cg ⟨_, rfl, by show 0 ≤ sizeLine; decide, fun p6 hp6 => ?_⟩
              have s8 : Same H7 (upd H7 p6 (.tup [])) := Same.new hp6
              refine ⟨dInts en, .tuple [], dp_ints ⟨b, rfl, (s17.trans s8).at hb⟩, .tup (.of upd_same) .nil, (shp_ints _).go, (Shp.tup (n := 0) (ds := []) (by intro d h; cases h)).go, _, rfl, ?_⟩
              have eo : (!PyData.eqv (dInts en) (.tuple [])) = !decide (en = []) := by
                unfold dInts
                cases en <;> simp [PyData.eqv, PyData.eqvAll]
              rw [eo]
              by_cases co : en = []
              · refine ifF (by rw [decide_eq_true co]; rfl) ⟨_, _, _, rfl, fin _ kvs6 true (s67.trans s8) (s8.at hF7) (by omega) ?_ m2 m3⟩
                rw [m1, show leftB S l st i en = false by unfold leftB; simp [co], Bool.or_false]
              · have e : leftB S l st i en = true := by unfold leftB; simp [co, hd, cg, cb]
                obtain ⟨kv, g1, g2, g3, g4, g5⟩ := Fnd3.put (H := upd H7 p6 (.tup [])) (F := F) "left" (.bl true) lk6 m1 m2 m3
                refine ifT (by rw [decide_eq_false co]; rfl) ⟨_, rfl, F, _, rfl, .inl ⟨kvs6, .inr "left", s8.at hF7, rfl, small1000 (by omega), rfl⟩, _, _, _, rfl, fin _ kv true ((s67.trans s8).own hF) g1 (by omega) ?_ g4 g5⟩
                rw [g3, e]; simp
            · refine ifF (Bool.eq_false_iff.mpr cg) (ifF rfl ⟨_, _, _, rfl, fin _ kvs6 true s67 hF7 (by omega) ?_ m2 m3⟩)
              rw [m1, show leftB S l st i en = false by unfold leftB; simp [cg], Bool.or_false]
        · refine ifF (decide_eq_false (fun z => cb (by have := V.int.inj z; omega))) (ifF rfl ⟨_, _, _, rfl, fin _ kvs6 true s67 hF7 (by omega) ?_ m2 m3⟩)
          rw [m1, show leftB S l st i en = false by unfold leftB; simp [cb], Bool.or_false]
      · rintro σ' H2 ⟨v1, v2, v3, rfl, s3, f3⟩
        rw [lz] at f3
        obtain ⟨kvs, f4, f5, f6⟩ := f3
        exact hRR _ _ ⟨_, _, _, rfl, s3, kvs, f4, by omega, f6⟩
    rintro σ' H2 ⟨v1, v2, v3, rfl, s3, kvs, hk, lk, k1, k2, k3⟩
    have k3' : ∀ w ∈ (["left", "missed", "stray"] : List Str), ∃ o, DGet H2 F (.str w) o ∧ o.isSome = (if w = "left" then anyE (leftB S l st) st.ents st.ents.length else if w = "missed" then anyE (missB S l st) st.ents st.ents.length else anyE (strayB S l st) st.ents st.ents.length) := by
      intro w hw
      refine ⟨_, DGet.k (k := .inr w) hk, ?_⟩
      simp only [List.mem_cons, List.not_mem_nil, or_false] at hw
      rcases hw with rfl | rfl | rfl
      · rw [if_pos rfl]; exact k1
      · rw [if_neg (by decide +kernel), if_pos rfl]; exact k2
      · rw [if_neg (by decide +kernel), if_neg (by decide +kernel)]; exact k3
    generalize hg : (fun w : Str => (if w = "left" then anyE (leftB S l st) st.ents st.ents.length else if w = "missed" then anyE (missB S l st) st.ents st.ents.length else anyE (strayB S l st) st.ents st.ents.length)) = g
    have k4 : ∀ w ∈ (["left", "missed", "stray"] : List Str), ∃ o, DGet H2 F (.str w) o ∧ o.isSome = g w := by rw [← hg]; exact k3'
    have eb : breaksM S l st = (["left", "missed", "stray"] : List Str).filter g := by
      have g1 : g "left" = anyE (leftB S l st) st.ents st.ents.length := by rw [← hg]; exact if_pos rfl
      have g2 : g "missed" = anyE (missB S l st) st.ents st.ents.length := by rw [← hg]; exact (if_neg (by decide +kernel)).trans (if_pos rfl)
      have g3 : g "stray" = anyE (strayB S l st) st.ents st.ents.length := by rw [← hg]; exact (if_neg (by decide +kernel)).trans (if_neg (by decide +kernel))
      unfold breaksM wish3
      rw [← g1, ← g2, ← g3, List.filter_cons, List.filter_cons, List.filter_cons, List.filter_nil]
      cases g "left" <;> cases g "missed" <;> cases g "stray" <;> rfl
    refine ⟨aX, rfl, ⟨_, .inr T.w_WISHES⟩, fun D4 hD4 => lc_tup (K := K) (a := aX) (xs := (["left", "missed", "stray"] : List Str).map V.str) (fun i H' => Same H2 H' ∧ H' D4 = some (.lst ((((["left", "missed", "stray"] : List Str).take i).filter g).map V.str))) ⟨Same.new hD4, upd_same⟩ (fun i H' _ h => .inr T.w_WISHES) ?_ ?_⟩
    · rintro i z H5 hi ⟨s5, h5⟩
      obtain ⟨wd, hwd, rfl⟩ := map_at hi
      obtain ⟨o, go, eo⟩ := k4 wd (List.mem_of_getElem? hwd)
      have go5 : DGet H5 F (.str wd) o := by
        rcases go with ⟨kv, kk, z1, z2, z3⟩ | ⟨_, _, _, _, z, _⟩
        · refine .inl ⟨kv, kk, ?_, z2, z3⟩
          rcases z1 with z1 | ⟨_, z1⟩
          · exact .inl (s5.at z1)
          · exact .inr ⟨_, s5.at z1⟩
        · cases z
      refine ⟨rfl, _, rfl, _, rfl, F, o, rfl, go5, _, rfl, ?_⟩
      rw [eo, take_succ hwd, List.filter_append]
      have l3 : (((["left", "missed", "stray"] : List Str).take i).filter g).length ≤ 3 := Nat.le_trans (List.length_filter_le _ _) (by rw [List.length_take]; exact Nat.min_le_right _ _)
      by_cases cg : g wd = true
      · refine ifT cg ⟨_, rfl, _, h5, ?_, s5.own hD4, ?_⟩
        · rw [List.length_map]; exact small1000 (by omega)
        · rw [List.filter_cons, if_pos cg, List.map_append]; exact upd_same
      · refine ifF (Bool.eq_false_iff.mpr cg) ⟨s5, ?_⟩
        rw [List.filter_cons, if_neg cg, List.filter_nil, List.append_nil]; exact h5
    · rintro H5 ⟨s5, h5⟩
      refine k _ _ ((s1.trans s3).trans s5) (h5.trans ?_)
      rw [eb]; rfl
end
end EL

set_option maxHeartbeats 4000000
namespace EL
open PySem PySem.Spec PyProof.Rows L2
/-! ### a def of a class that closes over __class__: super().__init__(e); self.f = v, in an own exception's __init__ -/
abbrev envS (qual : Str) (scope : Scope) (L f : Addr) (cd : Value) (cc : Addr) : Env := PySem.W.ksEnv qual scope L f cd cc
def cxS (CX : CXT) (P : Program) (w : World) (K : PySem.W.Frag) (mg : Str → Option Value) (base : Heap) (N : List Str) (qual : Str) (scope : Scope) (f : Addr) (cd : Value) (cc : Addr) (A : Around) (outer : List Env) (s : Shared) (H : Hp) (E : XK) : Cx where
  prog := P
  w := w
  K := K
  mg := mg
  base := base
  A := A.deeper (envS qual scope s.heap.objs.size f cd cc)
  N := N
  s_0 := s
  H_0 := H
  env := envS qual scope s.heap.objs.size f cd cc
  outer := outer
  stack := envS qual scope s.heap.objs.size f cd cc :: outer
  ex := []
  calm := true
  fn := fun _ => false
  pn := []
  xe := fun e s' => wpAny (model P w) (A.deeper (envS qual scope s.heap.objs.size f cd cc)) (leaving (envS qual scope s.heap.objs.size f cd cc) e) (fun _ s'' => CX outer H s E e s'') (fun e' s'' => CX outer H s E e' s'') s'
abbrev sXInit : Stmt := inClass (top 8) 0
abbrev xSc : Scope := defScope sXInit
theorem lookup_one {β : Type} {x y : Str} {a c : β} (h : ([(x, a)] : List (Str × β)).lookup y = some c) : y = x ∧ c = a := by
  by_cases e : y = x
  · subst e
    simp [List.lookup] at h
    exact ⟨rfl, h.symm⟩
  · have q : (y == x) = false := by simpa using e
    simp [List.lookup, q] at h
structure XTxt (P : Program) (K : PySem.W.Frag) (mg : Str → Option Value) (C fI cc cda : Addr) (fd : FuncData) : Prop where
  fn : ∃ (dV kV doc pm ct oc : Value) (an od : Option Addr) (osl : Array (Option Value)), fd = PySem.W.ksFn "__init__" "BadDeeds.__init__" (defArgs sXInit) (defBody sXInit) xSc dV kV doc pm an (.ref cda) ct cc ∧ K.lookup fI = some ⟨oc, od, .func fd, osl⟩
  hcd : PySem.W.codeIn K (.ref cda) "BadDeeds.__init__" = true
  code : ∃ (ccl : Value) (cdd : Option Addr) (vs : Array Value) (ccs : Array (Option Value)) (file : Str) (tf : Tok), K.lookup cda = some ⟨ccl, cdd, .fields vs, ccs⟩ ∧ vs[2]? = some (.str file tf) ∧ ((P.main.file : Str) == file) = true
  cell : ∃ (cl : Value) (cld : Option Addr) (csl : Array (Option Value)), K.lookup cc = some ⟨cl, cld, .cell (some (.ref C)), csl⟩
  T : OexC K C
  hm : PySem.W.ks_superIn K C C "__init__" = some (some (.builtin "ValueError.__init__"))
  hB : PySem.W.subIn K (.ref C) (.type "ValueError") = some true
  hsub : PySem.W.mroIn K C (.ref C) = some true
  hst : PySem.W.nsIn K cStatics "thirdparty.any" = some none
  htop : (P.main.scope.names.lookup ("super" : Str)).isSome = false
  nidx : PySem.W.findIn K (.ref C) "index" = some none
  n_super : mg "super" = none
  n_str : mg "str" = none
def spXInit (C : Addr) : Sp := fun vs H Q _ => ∃ (a : Addr) (r : Option Int), vs = [.ref a, rowV r] ∧ (∀ i, r = some i → 0 ≤ i ∧ i < 16) ∧ H a = some (exo a C none) ∧ ∀ H' dx, H' a = some (exo a C none) → Same H H' → H' dx = none → dx ≠ a → Q .non (upd (upd H' dx (exd dx [("index", rowV r)])) a (exo a C (some dx)))
section
variable {P : Program} {w : World} {K : PySem.W.Frag} {mg : Str → Option Value} {base : Heap} {C fI cc cda : Addr} {fd : FuncData}
theorem inv_startS {CX : CXT} {A : Around} {outer : List Env} {s : Shared} {H : Hp} {E : XK} {u0 u1 : Value} {v0 v1 : V} {h1 : Heap} {tk : Nat} (X : XTxt P K mg C fI cc cda fd)
    (hd : A.handled = none) (e0 : Env0 P w K mg base A outer s H) (r0 : RelV v0 u0) (r1 : RelV v1 u1)
    (hns : h1.Ns s.heap.objs.size (fun x => ([(("self" : Str), u0), (("index" : Str), u1)] : List (Str × Value)).reverse.lookup x)) (hk : ∀ b o, s.heap.get? b = some o → h1.get? b = some o) :
    Inv (cxS CX P w K mg base ["self", "index"] "BadDeeds.__init__" xSc fI (.ref cda) cc A outer s H E) [] [some v0, some v1] H { s with heap := h1, toks := tk } := by
  obtain ⟨cl, cld, csl, hc⟩ := X.cell
  have hcb : base.get? cc = some ⟨cl, cld, .cell (some (.ref C)), csl⟩ := e0.mod.kin _ _ hc
  have noA : ∀ b : Addr, b ∉ (cxS CX P w K mg base ["self", "index"] "BadDeeds.__init__" xSc fI (.ref cda) cc A outer s H E).ex := fun b z => absurd (show b ∈ ([] : List Addr) from z) (by simp)
  have lk1 : ∀ {x : Str} {c : Addr}, ([(("__class__" : Str), cc)] : List (Str × Addr)).lookup x = some c → x = "__class__" ∧ c = cc := fun h => lookup_one h
  have sclook : ∀ y : Str, (xSc.names.lookup y = some .cell ∨ xSc.names.lookup y = some .free) → y = "__class__" := by
    intro y h
    have key : ∀ p ∈ xSc.names, (p.2 = .cell ∨ p.2 = .free) → p.1 = "__class__" := by decide +kernel
    rcases h with h | h
    · exact key _ (PySem.mem_of_lookup h) (.inl rfl)
    · exact key _ (PySem.mem_of_lookup h) (.inr rfl)
  refine ⟨⟨e0.mod, rfl, rfl, rfl, Nat.le_refl _, fun y z c h1 h2 => ?_, fun y hy => ?_, fun y c h _ => (by cases h), fun _ => hd, Around.frames_deeper e0.frames, .inr ⟨rfl, rfl⟩, fun b z => absurd z (noA b), e0.bs, e0.bsz, fun b _ _ => noA b, fun b z => absurd z (noA b), e0.funs, e0.frf⟩,
    rfl, e0.bare, Un.kept hk, ⟨_, hns, fun i y v h1 h2 h3 => ?_⟩, fun y c h => ?_, e0.hok.fresh (Nat.le_refl _), fun y c h => ?_, fun p hp => absurd (show p ∈ ([] : List (Addr × Obj)) from hp) (by simp), e0.hok.kept hk, rfl⟩
  · rw [(lk1 h1).1, (lk1 h2).1]
  · have e := sclook y hy
    subst e
    exact ⟨cc, rfl⟩
  · have n01 : ((("index" : Str) == "self") = false) := by decide +kernel
    match i, h1, h2 with
    | 0, h1, h2 =>
      cases h1; cases h2
      refine ⟨u0, r0, .inl ⟨rfl, ?_⟩⟩
      show (([(("index" : Str), u1), (("self" : Str), u0)] : List (Str × Value)).lookup ("self" : Str)) = some u0
      rfl
    | 1, h1, h2 =>
      cases h1; cases h2
      exact ⟨u1, r1, .inl ⟨rfl, rfl⟩⟩
    | i + 2, h1, h2 => cases h1
  · obtain ⟨_, rfl⟩ := lk1 h
    exact ⟨some (.ref C), _, hk _ _ (e0.bs _ _ hcb).1, rfl⟩
  · obtain ⟨_, rfl⟩ := lk1 h
    exact (e0.bs _ _ hcb).2
theorem str_small : ∀ n : Nat, n < 16 → (Str.ofString (toString (n : Int))).length ≤ 10 := by decide +kernel
theorem log_small : ∀ n : Nat, n < 16 → ((n : Int)).natAbs.log2 < 1920 := by decide +kernel
def exArg : Expr := match defBody sXInit with
  | .Expr (.Call _ (e :: _) _ _) _ :: _ => e
  | _ => .Constant .none 0 ⟨0, 0, 0, 0⟩
/-- ValueError.__init__ bound to the exception, called -/
theorem call_mw {A : Around} {E : Value → Shared → Prop} {h : Heap} {g : Array GenState} {d : Drawn} {t : Nat} {os : OsState} {nm q : Str} {C N : Addr} {bs bm : List Value} {hdct : Bool} {sn : List Str} {sub : List Value} {ab : Bool} {col : Option Bool} {dd : Option Addr} {k0 k1 k2 k3 k5 : Option Value}
    {u e t0 : Addr} {rest : List Value} {Q : Value → Shared → Prop}
    (hC : h.get? C = some (excClassObj nm q C N bs bm hdct sn sub ab col dd k0 k1 k2 k3 k5 "ValueError.__new__")) (he : h.get? e = some ({ cls := .ref C, dict := none, data := .fields #[.ref t0, .none, .none, .none, .bool false, .none] } : Obj))
    (hu : h.get? u = some (PySem.W.kxs_mw "ValueError.__init__" e)) (hrest : rest.length ≤ sizeLine)
    (hq : ∀ h' t1, (∀ b o, b ≠ e → h.get? b = some o → h'.get? b = some o) → h'.get? e = some ({ cls := .ref C, dict := none, data := .fields #[.ref t1, .none, .none, .none, .bool false, .none] } : Obj) → Q .none ⟨h', g, d, t, os⟩) :
    wpAny (model P w) A (call (.ref u) rest) Q E ⟨h, g, d, t, os⟩ := by
  refine wpAny_call (codeAny_of_tree ?_)
  show wpAny _ A.in1 (callAny (.ref u) ⟨rest, []⟩) _ _ _
  simp only [callAny]
  refine wpAny_bind (wpAny_load hu ?_)
  simp only [PySem.W.kxs_mw, show (Value.type "method-wrapper" == Value.type "method" || Value.type "method-wrapper" == Value.type "builtin_function_or_method" || Value.type "method-wrapper" == Value.type "method-wrapper") = true by decide, if_true]
  refine PySem.W.KFB.if_so (by decide) ?_
  refine wpAny_bind (PySem.W.check_bound_init F.excBase_ValueError.toExcCallFacts hC he rfl ?_)
  refine wpAny_bind (wpAny_pure (wpAny_pure ?_))
  refine ⟨plainId_quiet F.excBase_ValueError.init.plain _, codeAny_builtin F.excBase_ValueError.initEntry ?_⟩
  exact PySem.W.exc_init_tree (cls := .ref C) (t0 := t0) (dv := none) (c2 := .none) (c3 := .none) (b4 := .bool false) he hrest fun h' k e' _ => hq h' _ k e'
theorem ok_xinit {k : Nat} (X : XTxt P K mg C fI cc cda fd) : FnOk P w K mg base CX0 (k + 1) fI fd ["self", "index"] (spXInit C) := by
  obtain ⟨dV, kV, doc, pm, ct, oc, an, od, osl, rfl, lk⟩ := X.fn
  refine ⟨fun vs H Q E h => ?_, fun A outer s H args us vs Q E hr e0 hb r hsp => ?_⟩
  · obtain ⟨_, _, rfl, _⟩ := h; rfl
  obtain ⟨a, ro, rfl, hro, ha, kk⟩ := hsp
  cases r with
  | @cons _ u0 _ ur ra r' =>
  cases r' with
  | @cons _ u1 _ ur1 r1 rn =>
  cases rn
  obtain rfl : u0 = Value.ref a := ra
  have KX : K.In s.heap := e0.mod.kin.keeps fun b o e => (e0.bs b o e).1
  have lim : s.heap.NoLimit := e0.mod.nolimit.keeps fun b o e => (e0.bs b o e).1
  refine ks_codeAny_call_defAt hr.depth (KX _ _ lk) rfl lim (PySem.W.codeRec_of KX X.hcd) rfl hb (show ∀ x ∈ xSc.names, x.2 ≠ .cell by decide +kernel) (fun y hy => ?_) (fun h1 hns hk => ?_)
  · have hy' : y = (("self" : Str), Value.ref a) ∨ y = (("index" : Str), u1) := by simpa [List.zip] using hy
    rcases hy' with rfl | rfl <;> rfl
  have I := inv_startS (CX := CX0) (E := E) (tk := s.toks + 2) X hr.hd e0 (v0 := .ref a) (u0 := .ref a) rfl r1 hns hk
  refine ks_wpAt_mono (Q := SP (cxS CX0 P w K mg base ["self", "index"] "BadDeeds.__init__" xSc fI (.ref cda) cc A outer s H E) [] { nx := fun _ H' => Q .non H', rt := Q }) ?_ (fun fl s' hs => ?_) (fun e s' he => he)
  · refine ks_wpAt_execs_cons (ks_wpAt_Expr_any (ks_wpAt_MethodCall ?_))
    obtain ⟨ccl, cdd, cvs, ccs, file, tf, hcode, hvs, hfile⟩ := X.code
    obtain ⟨cl, cld, csl, hcell⟩ := X.cell
    obtain ⟨nm, q, N, bs, bm, sn, sub, ab, col, dd, k0, k1, k2, k3, k5, hC, hbm⟩ := X.T.cls
    have hcl : PySem.W.clsIn K C = some { name := nm, bases := bs, mro := .ref C :: bm, ns := N, qualname := q, hasDict := true, slotNames := sn, subclasses := sub, abstract := ab, collection := col, hasDel := false } := by unfold PySem.W.clsIn; rw [hC] <;> rfl
    refine ks_wpAt_super_base (f := fI) rfl rfl (by decide +kernel) rfl (I.kIn _ _ lk) rfl rfl rfl (I.kIn _ _ hcode) rfl hvs hfile X.htop ?_
    obtain ⟨mb, hb1, hb2⟩ := I.mod.blt
    refine PySem.W.ks_loadName_global rfl rfl (Calls.loadGlobal_builtin (I.mod.glob.keeps I.bk) X.n_super (hb1.keeps I.bk) ((hb2 "super" (by decide +kernel)).trans (show bootBuiltins "super" = some (.type "super") by first | boot_by_name | rfl | kernel_rfl)) ⟨rfl, ?_⟩)
    refine wpAny_loadName_free rfl rfl rfl ⟨_, I.kIn _ _ hcell, rfl⟩ ?_
    refine wpAny_loadName_local rfl rfl hns (v := .ref a) rfl ?_
    refine ks_wpAny_isType_cls (I.kIn _ _ hC) rfl ⟨rfl, ?_⟩
    obtain ⟨t1, ho⟩ := exo_at I.hok ha
    refine ks_wpAny_call_super (I.kIn _ _ hC) rfl ho rfl (fun c e => nomatch e) (PySem.W.looks_mroIn I.kIn X.hsub) (fun h2 hso k2 => ?_)
    have K2 : K.In h2 := I.kIn.keeps k2
    have aC : a ≠ C := fun z => by
      have q := I.kIn _ _ hC
      rw [← z] at q
      have q2 := ho.symm.trans q
      cases q2
    have I0 : PySem.W.InstAt h2 a ({ cls := .ref C, dict := none, data := .fields #[.ref t1, .none, .none, .none, .bool false, .none] } : Obj) C none := ⟨k2 _ _ ho, rfl, rfl, trivial⟩
    have hm := X.hm
    unfold PySem.W.ks_superIn at hm
    rw [hcl] at hm
    refine PySem.W.kxs_getMethod PySem.W.kxs_ValueError hso (PySem.W.looks_opaque K2 X.hst) (l₀ := .ref C :: bm) (fun A Q E s k q => wpAny_bind ((PySem.W.looks_clsIn K2 hcl) A _ E s k (wpAny_pure q))) rfl K2 hm (I0.type.andThen (PySem.W.looks_subIn K2 X.hB)) aC (by decide +kernel) ?_
    have na : ∀ {b : Addr}, h1.objs.size ≤ b → H b = none := fun {b} z => I.hok.fresh z
    have sz2 : h1.objs.size ≤ h2.objs.size := by
      have := Heap.lt_size hso
      exact Nat.le_trans (Nat.le_succ _) this
    have I2 : Inv (cxS CX0 P w K mg base ["self", "index"] "BadDeeds.__init__" xSc fI (.ref cda) cc A outer s H E) [] [some (.ref a), some (rowV ro)] H ⟨h2.push (PySem.W.kxs_mw "ValueError.__init__" a), s.gens, s.drawn, s.toks + 2 + 1, s.os⟩ :=
      I.kept (t' := s.toks + 2 + 1) (h' := h2.push (PySem.W.kxs_mw "ValueError.__init__" a)) fun b o e => Heap.get?_push_of_some _ (k2 b o e)
    have hmw : (h2.push (PySem.W.kxs_mw "ValueError.__init__" a)).get? h2.objs.size = some (PySem.W.kxs_mw "ValueError.__init__" a) := Heap.get?_push_at rfl rfl
    have I3 := I2.pins_of (pins' := [(h2.objs.size, PySem.W.kxs_mw "ValueError.__init__" a)]) fun p hp => by
      obtain rfl := List.mem_singleton.mp hp
      exact ⟨hmw, na sz2, fun z => absurd (show s.heap.objs.size < h1.objs.size from I.lt) (by rw [← show h2.objs.size = s.heap.objs.size from z]; exact Nat.not_lt.mpr sz2), I.nofs sz2, fun v z => nomatch z⟩
    refine PySem.W.kxs_callWith (i := "ValueError.__init__") (x := a) rfl (Calls.evalArgs_plain ?_)
    have ha0 : PA (cxS CX0 P w K mg base ["self", "index"] "BadDeeds.__init__" xSc fI (.ref cda) cc A outer s H E) [exArg] _ :=
      pa_cons (pe_ifExp (pt_cmp (pc_isN (pv 1))) pe_str (pe_op op_add_str pe_str (pe_callTy call_str_int (by rfl) X.n_str (by decide +kernel) (pa_cons (pv 1) pa_nil)))) pa_nil
    refine thn (ha0.run _ _ _ _ _ (fun vs H' => H' = H ∧ vs.length = 1) I3 ?_) fun us s3 ⟨vs, H3, I4, r4, eH, el⟩ => ?_
    · refine ⟨_, rfl, _, rfl, ?_⟩
      cases ro with
      | none => exact ifT rfl ⟨rfl, rfl⟩
      | some i =>
        obtain ⟨i0, i1⟩ := hro i rfl
        obtain ⟨n, rfl⟩ : ∃ n : Nat, i = n := ⟨i.toNat, by omega⟩
        refine ifF rfl ⟨_, rfl, _, rfl, ?_, _, _, rfl, rfl, ?_, rfl, rfl⟩
        · exact log_small n (by omega)
        · have z := str_small n (by omega)
          exact Nat.le_of_lt (small1000 (Nat.le_trans (Nat.add_le_add (show ("this cannot be done: " : Str).length ≤ 100 by decide +kernel) z) (by decide)))
    subst eH
    have pn := I4.pin (h2.objs.size, PySem.W.kxs_mw "ValueError.__init__" a) (by show _ ∈ [] ++ [_]; simp)
    refine ⟨pn.1, ?_⟩
    show wpAny _ _ (call (.ref h2.objs.size) us) _ _ _
    obtain ⟨t3, ho3⟩ := exo_at I4.hok ha
    obtain ⟨h3, g3, d3, tk3, os3⟩ := s3
    refine call_mw (I4.kIn _ _ hC) ho3 pn.1 (by rw [← r4.length, el]; decide) (fun h4 t4 k4 he4 => ?_)
    have J := I4.write (t' := tk3) (x := a) (e := a) (o := exo a C none) (by rw [ha]; exact True.intro) (.inl rfl) k4 ⟨_, he4⟩ (exo_ok he4)
    have eu : upd H3 a (exo a C none) = H3 := by
      funext b
      by_cases hb : b = a
      · rw [hb, upd_same, ha]
      · rw [upd_ne hb]
    rw [eu] at J
    have J2 := J.pins_of (pins' := []) (fun p hp => absurd hp (by simp))
    refine wpAt_of_wpAny ?_
    exact (pss_one (ps_ost (pv 0) (pv 1))).run [] _ _ H3 { nx := fun _ H' => Q .non H', rt := Q } J2 ⟨_, rfl, _, rfl, a, C, rfl, X.T, X.nidx, .inl ⟨ha, fun dx hn hne => kk H3 dx ha (Same.refl _) hn hne⟩⟩
  · have fin : ∀ {σ' : L2.St} {H' : Hp} {v : V} {u : Value}, Inv (cxS CX0 P w K mg base ["self", "index"] "BadDeeds.__init__" xSc fI (.ref cda) cc A outer s H E) [] σ' H' s' → RelV v u → Q v H' → CE outer P w H s Q u s' :=
      fun {σ' H' v u} J rv q => ⟨v, H', J.os, J.bare, J.base, J.hok, rv, q⟩
    cases fl with
    | ret u =>
      obtain ⟨v, σ', H', J, rv, q⟩ := hs
      exact fin J rv q
    | next =>
      obtain ⟨σ', H', J, q⟩ := hs
      exact fin (v := V.non) (u := Value.none) J rfl q
    | brk =>
      obtain ⟨_, _, _, q⟩ := hs
      exact False.elim q
    | cont =>
      obtain ⟨_, _, _, q⟩ := hs
      exact False.elim q
end
end EL

set_option maxHeartbeats 4000000
namespace EL
open PySem PySem.Spec PyProof.Rows L2
/-! ### raising -/
structure BXT (K : PySem.W.Frag) (mg : Str → Option Value) (C fI : Addr) (fd : FuncData) : Prop where
  g : mg "BadDeeds" = some (.ref C)
  init : PySem.W.findIn K (.ref C) "__init__" = some (some (.ref fI))
  typ : PySem.W.typeIn K (.ref fI) = some (.type "function")
  binds : Binds K fd ["self", "index"] []
structure BDT (K : PySem.W.Frag) (mg : Str → Option Value) (D : Addr) : Prop where
  g : mg "BadDeed" = some (.ref D)
  kC : PySem.W.keepIn K (.ref D) = true
  exc : PySem.W.excIn K D [.type "ValueError", .type "Exception", .type "BaseException", .type "object"] "ValueError.__new__" = true
  sub : PySem.W.subIn K (.ref D) (.type "BaseException") = some true
  typ : PySem.W.typeIn K (.ref D) = some (.type "type")
theorem pmk_bd {X : Cx} {C fI cc cda : Addr} {fd : FuncData} {e : Expr} {ta : TA} {p pos : Pos} (XT : XTxt X.prog X.K X.mg C fI cc cda fd) (bX : BXT X.K X.mg C fI fd) (hr : Room 2 X.A) (hg : Gl X "BadDeeds") (ha : PA X [e] ta)
    (he : starEach (e :: []) X.env = (false, eval e X.env) :: starEach [] X.env := by rfl) (hpl : (backTo pos (starEach [] X.env)).any (·.1) = false := by rfl) :
    PMk X (.Call (.Name "BadDeeds" p) [e] [] pos) (tMkO C (spXInit C) [] ta) := pmk_oex XT.T bX.init bX.typ (ok_xinit (k := 0) XT) hr bX.binds .nil pass0 hg bX.g ha (by decide) he hpl
theorem bd_raise {C : Addr} {r : Option Int} {H1 : Hp} {Q : XK} (hr : ∀ i, r = some i → 0 ≤ i ∧ i < 16) (q : ∀ d H', Same H1 H' → H' d = some (.xd [("index", rowV r)]) → Q (.ref C) (some d) H') :
    [rowV r].length ≤ 1000 ∧ ∀ a, H1 a = none → spXInit C (.ref a :: ([rowV r] ++ [])) (upd H1 a (exo a C none))
      (fun v H2 => v = .non ∧ ∃ (d : Addr) (fs : List (Str × V)), H2 a = some (exo a C (some d)) ∧ H2 d = some (exd d fs) ∧ H1 d = none ∧ Q (.ref C) (some d) (upd (del H2 a) d (.xd fs))) (fun _ _ _ => False) := by
  refine ⟨by show 1 ≤ 1000; decide, fun a ha => ⟨a, r, rfl, hr, upd_same, fun H' dx e1 s1 n1 ne => ?_⟩⟩
  have hd : H1 dx = none := by
    cases e : H1 dx with
    | none => rfl
    | some o =>
      have z := s1 dx o ((upd_ne ne).trans e)
      rw [n1] at z; cases z
  refine ⟨rfl, dx, _, upd_same, (upd_ne ne).trans upd_same, hd, q dx _ (fun b o e => ?_) upd_same⟩
  have n2 : b ≠ dx := ne_of_none e hd
  have n3 : b ≠ a := ne_of_none e ha
  rw [upd_ne n2, del_ne n3, upd_ne n3, upd_ne n2]
  exact s1 b o ((upd_ne n3).trans e)
/-- enumerate of a name's list or tuple -/
def iEnumS (i : Nat) : TI := fun σ H R => ∃ (a : Addr) (xs : List V), σ[i]? = some (some (.ref a)) ∧ (H a = some (.lst xs) ∨ H a = some (.tup xs)) ∧
  ∀ J, L2.Walk J xs.length (fun H' => H' a = H a) (YPair (fun i => some (.int (i : Nat))) (fun i => xs[i]?)) → R J H
theorem pi_enumS {X : Cx} {e : Expr} {i : Nat} {p pos tpos : Pos} {elts : List Expr} {kk : Nat} (hg : Gl X "enumerate") (hm : X.mg "enumerate" = none) (ha : PA X [e] (tCons (tVar i) tNil)) (hs : starEach [e] X.env = [(false, eval e X.env)] := by rfl) :
    PI X (.Tuple elts kk tpos) (.Call (.Name "enumerate" p) [e] [] pos) (iEnumS i) := ⟨fun pins s σ H R I h => by
  obtain ⟨a, xs, hv, hq, hR⟩ := h
  rcases hq with hl | ht
  · exact (pi_enum hg hm ha hs).run pins s σ H R I ⟨_, hv, a, xs, rfl, .of hl, hR _ (walk_enum.mono (fun H' e => SqL.of (e.trans hl)) fun _ _ _ _ _ _ y => y)⟩
  · exact (pi_enumT hg hm ha hs).run pins s σ H R I ⟨_, hv, a, xs, rfl, ht, hR _ (walk_enumT.mono (fun H' e => e.trans ht) fun _ _ _ _ _ _ y => y)⟩⟩
theorem same_none {H H1 : Hp} {p : Addr} (s : Same H H1) (h : H1 p = none) : H p = none := by
  cases e : H p with
  | none => rfl
  | some o => have z := s p o e; rw [h] at z; cases z
/-! ### what the callers give -/
def Chain (S : Sch) (l : Nat) (ts : List Th) (sts : List Sta) : Prop := ∀ (i : Nat) (t : Th) (s' : Sta), ts[i]? = some t → sts[i]? = some s' → ∃ s, (firstM S :: sts)[i]? = some s ∧ doneM S l s t = some s'
def HisT (H : Hp) (v : V) (ts : List Th) : Prop := ∃ a xs, v = .ref a ∧ (H a = some (.lst xs) ∨ H a = some (.tup xs)) ∧ Paired (ThT H) xs ts
section
variable {P : Program} {w : World} {K : PySem.W.Frag} {mg : Str → Option Value} {base : Heap} {C C2 D2 aW aX f fI cc cda : Addr} {fd fdI : FuncData}
/-! ### follow -/
abbrev sFollow : Stmt := top 36
def spWov (C C2 : Addr) (S : Sch) (l : Nat) (y : V) (H : Hp) (Q : VK) (E : XK) : Prop :=
  (∃ (ts : List Th) (sts : List Sta), HisT H y ts ∧ (∀ t ∈ ts, OkTh t) ∧ ts.length < 16 ∧ (∀ s ∈ firstM S :: sts, OkSta S s) ∧ Chain S l ts sts ∧
      ((sts.length = ts.length ∧ ∀ H' u, Same H H' → LstOf StaT H' u sts → Q u H') ∨
       (∃ t s, ts[sts.length]? = some t ∧ (firstM S :: sts)[sts.length]? = some s ∧ doneM S l s t = none ∧ ∀ H' d, Same H H' → H' d = some (.xd [("index", .int (sts.length : Nat))]) → E (.ref C2) (some d) H'))) ∨
  (∃ i, y = .int i ∧ ∀ H' d, Same H H' → H' d = some (.xd [("index", .non)]) → E (.ref C2) (some d) H')
def spFollow (C C2 : Addr) : Sp := fun vs H Q E => ∃ (x y : V) (S : Sch) (l : Nat), vs = [x, .int l, y] ∧ SchT C H x S ∧ OkSch S ∧ spWov C C2 S l y H Q E
theorem scFollow : FnScope ["schedule", "lag", "history", "state", "found", "index", "deed"] ["schedule", "lag", "history"] (defScope sFollow) := ⟨rfl, rfl, rfl, by decide +kernel, rfl, by decide +kernel, by decide +kernel⟩
theorem ok_follow (F : Fun K "follow" "follow" sFollow f fd) (T : Txt K mg C aW aX) (XT : XTxt P K mg C2 fI cc cda fdI) (bX : BXT K mg C2 fI fdI) (c_first_of : Ca P w K mg base CX0 3 "first_of" ["schedule"] (spFirstOf C))
    (c_done : Ca P w K mg base CX0 5 "done" ["schedule", "lag", "state", "deed"] (spDone C)) :
    FnOk P w K mg base (L2.CX P w) 6 f fd ["schedule", "lag", "history"] (spFollow C C2) := by
  refine F.okX scFollow (fun vs H Q E h => ?_) (fun cdv A outer s H vs Q E hr h => ?_)
  · obtain ⟨_, _, _, _, rfl, _⟩ := h; rfl
  · obtain ⟨x, y, S, l, rfl, hS, okS, h⟩ := h
    have nd := scFollow.nd
    refine ⟨_, (pss_cons (ps_if (pt_not (pt_val (pe_callB (kIsiT K) (by rfl) T.n_isinstance (by decide +kernel) (pa_cons (pv 2) (pa_cons (pe_tup (pa_cons (pe_bltn (v := .ty "list") (u := .type "list") (by rfl) T.n_list (by decide +kernel) rfl) (pa_cons (pe_bltn (v := .ty "tuple") (u := .type "tuple") (by rfl) T.n_tuple (by decide +kernel) rfl) pa_nil))) pa_nil))))) (pss_one (ps_raise rfl (takes_of rfl rfl rfl rfl) (pmk_bd XT bX (hr.mono (by decide)) (by rfl) (pa_cons pe_non pa_nil)))) pss_nil)
      (pss_cons (ps_par (i := 3) (j := 4) rfl nd rfl rfl (by decide) rfl rfl (pa_cons (pe_ca c_first_of (hr.mono (by decide)) (by rfl) pass0 (pa_cons (pv 0) pa_nil)) (pa_cons (pe_lst pa_nil) pa_nil)) rfl)
      (pss_cons (ps_for (passes_of rfl) rfl (pi_enumS (by rfl) T.n_enumerate (pa_cons (pv 2) pa_nil)) (kTg K (n := 2) rfl rfl (pgs_cons (pg_name (i := 5) nd rfl (by first | exact Or.inl rfl | exact Or.inr rfl)) (pgs_cons (pg_name (i := 6) nd rfl (by first | exact Or.inl rfl | exact Or.inr rfl)) pgs_nil))) (pss_cons (ps_set (i := 3) nd rfl (by first | exact Or.inl rfl | exact Or.inr rfl) (pe_ca c_done (hr.mono (by decide)) (by rfl) pass0 (pa_cons (pv 0) (pa_cons (pv 1) (pa_cons (pv 3) (pa_cons (pv 6) pa_nil))))))
      (pss_cons (ps_if (pt_cmp (pc_isN (pv 3))) (pss_one (ps_raise rfl (takes_of rfl rfl rfl rfl) (pmk_bd XT bX (hr.mono (by decide)) (by rfl) (pa_cons (pv 5) pa_nil)))) pss_nil)
      (pss_one (ps_expr (pe_bm PySem.F.plainAttrs_list PySem.F.slot_list_append PySem.F.type_list_append mt_append (pv 4) (pa_cons (pv 3) pa_nil)))))))
      (pss_one (ps_ret (pv 4)))))), ?_⟩
    rcases h with ⟨ts, sts, ⟨a, xs, rfl, hseq, px⟩, okT, l16, okA, hch, fin⟩ | ⟨i, rfl, k⟩
    case inr =>
      refine ⟨_, rfl, by show 2 ≤ sizeLine; decide, fun p hp => ⟨_, p, _, _, _, false, rfl, upd_same, .cons (.ty "list") (.cons (.ty "tuple") .nil), .base (.int i), kitAny_cons (b := false) (kit_ty (by decide +kernel)) (fun _ => kitAny_cons (b := false) (kit_ty (by decide +kernel)) (fun _ => kitAny_nil) (fun h => nomatch h)) (fun h => nomatch h), false, rfl, ifT rfl ?_⟩⟩
      exact bd_raise (r := none) (fun _ h => nomatch h) fun d H' s2 hd => k H' d ((Same.new hp).trans s2) hd
    have lx := px.e_len
    refine seq_cut (fun σ' H' => σ' = [some x, some (.int l), some (.ref a), none, none, none, none] ∧ Same H H') (fun R hRR => ?_) ?_
    · refine ⟨_, rfl, by show 2 ≤ sizeLine; decide, fun p hp => ?_⟩
      rcases hseq with hl | ht
      · exact ⟨_, p, _, _, _, true, rfl, upd_same, .cons (.ty "list") (.cons (.ty "tuple") .nil), .base (.lst ((Same.new hp).at hl)), kitAny_cons (b := true) (kit_ty (by decide +kernel)) (fun h => nomatch h) (fun _ => rfl), true, rfl, ifF rfl (hRR _ _ ⟨rfl, Same.new hp⟩)⟩
      · exact ⟨_, p, _, _, _, true, rfl, upd_same, .cons (.ty "list") (.cons (.ty "tuple") .nil), .base (.tup ((Same.new hp).at ht)), kitAny_cons (b := false) (kit_ty (by decide +kernel)) (fun _ => kitAny_cons (b := true) (kit_ty (by decide +kernel)) (fun h => nomatch h) (fun _ => rfl)) (fun h => nomatch h), true, rfl, ifF rfl (hRR _ _ ⟨rfl, Same.new hp⟩)⟩
    rintro σ' H0 ⟨rfl, s0⟩
    refine ⟨_, rfl, x, S, rfl, sch_keep (Keep.of s0) hS, okS, fun H1 u1 s1 h1 => ⟨by show 0 ≤ sizeLine; decide, fun F hF1 => ⟨_, _, rfl, ?_⟩⟩⟩
    have s01 := s0.trans s1
    have hF : H F = none := same_none s01 hF1
    have s2 : Same H (upd H1 F (.lst [])) := s01.trans (Same.new hF1)
    have hseq2 : (upd H1 F (.lst [])) a = some (.lst xs) ∨ (upd H1 F (.lst [])) a = some (.tup xs) := hseq.elim (fun h => .inl (s2.at h)) fun h => .inr (s2.at h)
    dsimp only
    refine seq_cut (fun σ' H' => ∃ (v3 v5 v6 : Option V) (ys : List V), σ' = [some x, some (.int l), some (.ref a), v3, some (.ref F), v5, v6] ∧ Same H H' ∧ sts.length = ts.length ∧ H' F = some (.lst ys) ∧ Paired (StaT H') ys sts) (fun R hRR => ?_) ?_
    · refine ⟨a, xs, rfl, hseq2, fun J hJ => ?_⟩
      refine for_it hJ (fun i σ' H' => ∃ (v5 v6 : Option V) (u : V) (ys : List V), σ' = [some x, some (.int l), some (.ref a), some u, some (.ref F), v5, v6] ∧ Same H H' ∧ i ≤ sts.length ∧ (∃ s, (firstM S :: sts)[i]? = some s ∧ StaT H' u s) ∧ H' F = some (.lst ys) ∧ Paired (StaT H') ys (sts.take i))
        ⟨none, none, u1, [], rfl, s2, Nat.zero_le _, ⟨_, rfl, mono_sta.go (Keep.new hF1) h1⟩, upd_same, .nil⟩ (fun i σ' H' _ h => ?_) ?_ ?_
      · obtain ⟨_, _, _, _, _, s3, _⟩ := h
        rcases hseq with q | q
        · exact (s3.at q).trans (s2.at q).symm
        · exact (s3.at q).trans (s2.at q).symm
      · rintro i z σ' H2 H3 hi ⟨v5, v6, u, ys, rfl, s3, hle, ⟨st, hst, hu⟩, hF2, py⟩ ⟨T1, x1, x2, rfl, hT, rfl, e1, e2⟩
        cases e1
        obtain ⟨t, ht, rt⟩ := px.e_at e2
        have s4 : Same H (upd H2 T1 (.tup [.int (i : Nat), x2])) := s3.trans (Same.new hT)
        refine ⟨T1, _, rfl, .of upd_same, rfl, _, _, rfl, _, _, rfl, rfl, ?_⟩
        refine ⟨_, rfl, _, rfl, _, rfl, _, rfl, x, u, x2, S, st, l, t, rfl, sch_keep (Keep.of s4) hS, okS, mono_sta.go (Keep.new hT) hu, okA st (List.mem_of_getElem? hst), thT_same s4 rt, okT t (List.mem_of_getElem? ht), fun H4 u3 s5 h3 => ?_⟩
        have s35 := (Same.new (o := .tup [.int (i : Nat), x2]) hT).trans s5
        by_cases c : i < sts.length
        · obtain ⟨s', hs'⟩ : ∃ s', sts[i]? = some s' := ⟨sts[i], by simp [c]⟩
          obtain ⟨st2, hst2, hd⟩ := hch i t s' ht hs'
          rw [hst] at hst2; cases hst2
          rw [hd] at h3
          obtain ⟨b, xx, rfl, hb, hx⟩ := id h3
          have hF4 := s35.at hF2
          have lys : ys.length ≤ 16 := by rw [py.e_len, List.length_take]; omega
          refine ⟨_, rfl, _, rfl, ifF rfl ⟨_, rfl, .inl ⟨rfl, _, .of hF4⟩, _, rfl, F, ys, _, rfl, rfl, hF4, small1000 (by omega), _, _, _, _, rfl, (s3.trans s35).own hF, c, ⟨s', hs', ?_⟩, upd_same, ?_⟩⟩
          · exact mono_sta.go (Keep.lst hF4) h3
          · rw [take_succ hs']
            have kk : Keep H4 (upd H4 F (.lst (ys ++ [.ref b]))) := Keep.lst hF4
            exact (mono_paired mono_sta ((Keep.of s35).trans kk) py).e_snoc (mono_sta.go kk h3)
        · have ei : i = sts.length := by omega
          subst ei
          rcases fin with ⟨el, _⟩ | ⟨t2, st2, ht2, hst2, hd, k⟩
          · exfalso; omega
          · rw [ht] at ht2; cases ht2
            rw [hst] at hst2; cases hst2
            rw [hd] at h3
            obtain rfl : u3 = .non := h3
            refine ⟨_, rfl, _, rfl, ifT rfl ⟨_, rfl, bd_raise (r := some ((sts.length : Nat) : Int)) (fun j h => by cases h; omega) fun d H' s6 hd6 => k H' d ((s3.trans s35).trans s6) hd6⟩⟩
      · rintro σ' H2 ⟨v5, v6, u, ys, rfl, s3, hle, _, hF2, py⟩
        refine hRR _ _ ⟨_, _, _, ys, rfl, s3, ?_, hF2, ?_⟩
        · rcases fin with ⟨el, _⟩ | ⟨t2, st2, ht2, _⟩
          · exact el
          · have := lt_of_at ht2; omega
        · rw [List.take_of_length_le (by rw [lx]; rcases fin with ⟨el, _⟩ | ⟨t2, st2, ht2, _⟩ <;> first | omega | (have := lt_of_at ht2; omega))] at py
          exact py
    · rintro σ' H2 ⟨v3, v5, v6, ys, rfl, s3, el, hF2, py⟩
      rcases fin with ⟨_, k⟩ | ⟨t2, st2, ht2, _⟩
      · exact ⟨_, rfl, k _ _ s3 ⟨F, ys, rfl, hF2, py⟩⟩
      · have := lt_of_at ht2; exfalso; omega
/-! ### first_state, deeds, broken, after, woven -/
abbrev sFirstState : Stmt := top 37
theorem scFirstState : FnScope ["schedule"] ["schedule"] (defScope sFirstState) := ⟨rfl, rfl, rfl, by decide +kernel, rfl, by decide +kernel, by decide +kernel⟩
theorem ok_first_state (F : Fun K "first_state" "first_state" sFirstState f fd) (T : Txt K mg C aW aX) (c_check_schedule : Ca P w K mg base CX0 1 "check_schedule" ["value"] (spCkSch C)) (c_first_of : Ca P w K mg base CX0 3 "first_of" ["schedule"] (spFirstOf C)) :
    FnOk P w K mg base CX0 4 f fd ["schedule"] (spFirstOf C) := by
  refine F.ok scFirstState (fun vs H Q E h => ?_) (fun cdv A outer s H vs Q E hr h => ?_)
  · obtain ⟨_, _, rfl, _⟩ := h; rfl
  · obtain ⟨x, S, rfl, hS, okS, k⟩ := h
    exact ⟨_, (pss_cons (ps_expr (pe_ca c_check_schedule (hr.mono (by decide)) (by rfl) pass0 (pa_cons (pv 0) pa_nil)))
      (pss_one (ps_ret (pe_ca c_first_of (hr.mono (by decide)) (by rfl) pass0 (pa_cons (pv 0) pa_nil))))), _, rfl, x, S, rfl, hS, _, rfl, x, S, rfl, hS, okS, k⟩
abbrev sDeeds : Stmt := top 38
def spDeeds (C : Addr) : Sp := fun vs H Q _ => ∃ (x v : V) (S : Sch) (st : Sta) (l : Nat), vs = [x, v, .int l] ∧ SchT C H x S ∧ OkSch S ∧ StaT H v st ∧ OkSta S st ∧ l ≤ 4 ∧
  ∀ H' u, Same H H' → LstOf DeedT H' u ((rowsIn S l st).map Prod.fst) → Q u H'
theorem scDeeds : FnScope ["schedule", "state", "lag", "row"] ["schedule", "state", "lag"] (defScope sDeeds) := ⟨rfl, rfl, rfl, by decide +kernel, rfl, by decide +kernel, by decide +kernel⟩
theorem ok_deeds (F : Fun K "deeds" "deeds" sDeeds f fd) (T : Txt K mg C aW aX) (c_check_state : Ca P w K mg base CX0 4 "check_state" ["schedule", "state", "lag"] (spCkState C)) (c_rows_in : Ca P w K mg base CX0 4 "rows_in" ["schedule", "lag", "state"] (spRowsIn C)) :
    FnOk P w K mg base CX0 5 f fd ["schedule", "state", "lag"] (spDeeds C) := by
  refine F.ok scDeeds (fun vs H Q E h => ?_) (fun cdv A outer s H vs Q E hr h => ?_)
  · obtain ⟨_, _, _, _, _, rfl, _⟩ := h; rfl
  · obtain ⟨x, v, S, st, l, rfl, hS, okS, hV, ok, hl, k⟩ := h
    have nd := scDeeds.nd
    refine ⟨_, (pss_cons (ps_expr (pe_ca c_check_state (hr.mono (by decide)) (by rfl) pass0 (pa_cons (pv 0) (pa_cons (pv 1) (pa_cons (pv 2) pa_nil)))))
      (pss_one (ps_ret (pe_lc  (own := [("row", 3)]) rfl nd (kPiL K rfl (pe_ca c_rows_in (hr.mono (by decide)) (by rfl) pass0 (pa_cons (pv 0) (pa_cons (pv 2) (pa_cons (pv 1) pa_nil))))) (blkOk_by (by kernel_rfl)) (fun _ _ _ _ _ => (pg_name (i := 3) nd rfl (by first | exact Or.inl rfl | exact Or.inr rfl))) (fun _ _ _ _ _ => pts_nil) (fun _ _ _ _ _ => (pe_ix (kIxT K) (pv 3) pe_int (fun _ _ => rfl))))))), ?_⟩
    refine ⟨_, rfl, _, rfl, _, rfl, x, v, S, st, l, rfl, hS, okS, hV, ok, hl, fun H1 s1 => ?_⟩
    refine ⟨_, rfl, _, rfl, _, rfl, x, v, S, st, l, rfl, sch_keep (Keep.of s1) hS, okS, mono_sta.go (Keep.of s1) hV, ok, fun H2 u s2 ⟨b, xs, e, hb, pb⟩ => ?_⟩
    subst e
    have lx := pb.e_len
    have l54 := len_rows okS l st
    have s12 := s1.trans s2
    refine ⟨b, rfl, ⟨_, .of hb⟩, fun D hD => lc_list (K := K) (a := b) (xs := xs) (fun i H' => Same H2 H' ∧ ∃ zs, H' D = some (.lst zs) ∧ Paired (DeedT H') zs (((rowsIn S l st).take i).map Prod.fst)) ⟨Same.new hD, [], upd_same, .nil⟩ (fun i H' _ h => SqL.of (h.1 _ _ hb)) ?_ ?_⟩
    · rintro i z H' hi ⟨s3, zs, hz, pz⟩
      obtain ⟨⟨d, s'⟩, hr2, c, zd, zs2, rfl, hc, dd, ds⟩ := pb.e_at hi
      have hil := lt_of_at hi
      have k3 := Keep.of s3
      have lz : zs.length ≤ 54 := by rw [pz.e_len, List.length_map, List.length_take]; omega
      refine ⟨rfl, yes (ifT rfl ⟨_, rfl, c, _, _, _, rfl, rfl, .of (s3.at hc), at0, zs, hz, small1000 (by omega), s3.own hD, zs ++ [zd], upd_same, ?_⟩)⟩
      have kk : Keep H' (upd H' D (.lst (zs ++ [zd]))) := Keep.lst hz
      rw [take_succ hr2, List.map_append]
      exact (mono_paired mono_deed kk pz).e_snoc (mono_deed.go (k3.trans kk) dd)
    · rintro H' ⟨s3, zs, hz, pz⟩
      rw [lx, List.take_length] at pz
      exact k _ _ (s12.trans s3) ⟨D, zs, rfl, hz, pz⟩
abbrev sBroken : Stmt := top 39
def spBroken (C : Addr) : Sp := fun vs H Q _ => ∃ (x v : V) (S : Sch) (st : Sta) (l : Nat), vs = [x, v, .int l] ∧ SchT C H x S ∧ OkSch S ∧ StaT H v st ∧ OkSta S st ∧ l ≤ 4 ∧
  ∀ H' p, Same H H' → H' p = some (.lst ((breaksM S l st).map V.str)) → Q (.ref p) H'
theorem scBroken : FnScope ["schedule", "state", "lag"] ["schedule", "state", "lag"] (defScope sBroken) := ⟨rfl, rfl, rfl, by decide +kernel, rfl, by decide +kernel, by decide +kernel⟩
theorem ok_broken (F : Fun K "broken" "broken" sBroken f fd) (T : Txt K mg C aW aX) (c_check_state : Ca P w K mg base CX0 4 "check_state" ["schedule", "state", "lag"] (spCkState C)) (c_breaks : Ca P w K mg base CX0 5 "breaks" ["schedule", "lag", "state"] (spBreaks C)) :
    FnOk P w K mg base CX0 6 f fd ["schedule", "state", "lag"] (spBroken C) := by
  refine F.ok scBroken (fun vs H Q E h => ?_) (fun cdv A outer s H vs Q E hr h => ?_)
  · obtain ⟨_, _, _, _, _, rfl, _⟩ := h; rfl
  · obtain ⟨x, v, S, st, l, rfl, hS, okS, hV, ok, hl, k⟩ := h
    refine ⟨_, (pss_cons (ps_expr (pe_ca c_check_state (hr.mono (by decide)) (by rfl) pass0 (pa_cons (pv 0) (pa_cons (pv 1) (pa_cons (pv 2) pa_nil)))))
      (pss_one (ps_ret (pe_ca c_breaks (hr.mono (by decide)) (by rfl) pass0 (pa_cons (pv 0) (pa_cons (pv 2) (pa_cons (pv 1) pa_nil))))))), ?_⟩
    exact ⟨_, rfl, _, rfl, _, rfl, x, v, S, st, l, rfl, hS, okS, hV, ok, hl, fun H1 s1 => ⟨_, rfl, _, rfl, _, rfl, x, v, S, st, l, rfl, sch_keep (Keep.of s1) hS, okS, mono_sta.go (Keep.of s1) hV, ok, fun H2 p s2 h2 => k _ _ (s1.trans s2) h2⟩⟩
abbrev sAfter : Stmt := top 40
def spAfter (C D2 : Addr) : Sp := fun vs H Q E => ∃ (x v y : V) (S : Sch) (st : Sta) (l : Nat) (t : Th), vs = [x, v, y, .int l] ∧ SchT C H x S ∧ OkSch S ∧ StaT H v st ∧ OkSta S st ∧ l ≤ 4 ∧ ThT H y t ∧ OkTh t ∧
  match doneM S l st t with
  | some s' => ∀ H' u, Same H H' → StaT H' u s' → Q u H'
  | none => ∀ H', Same H H' → E (.ref D2) none H'
theorem scAfter : FnScope ["schedule", "state", "deed", "lag", "found"] ["schedule", "state", "deed", "lag"] (defScope sAfter) := ⟨rfl, rfl, rfl, by decide +kernel, rfl, by decide +kernel, by decide +kernel⟩
theorem ok_after (F : Fun K "after" "after" sAfter f fd) (T : Txt K mg C aW aX) (BT : BDT K mg D2) (c_check_state : Ca P w K mg base CX0 4 "check_state" ["schedule", "state", "lag"] (spCkState C)) (c_done : Ca P w K mg base CX0 5 "done" ["schedule", "lag", "state", "deed"] (spDone C)) :
    FnOk P w K mg base (L2.CX P w) 6 f fd ["schedule", "state", "deed", "lag"] (spAfter C D2) := by
  refine F.okX scAfter (fun vs H Q E h => ?_) (fun cdv A outer s H vs Q E hr h => ?_)
  · obtain ⟨_, _, _, _, _, _, _, rfl, _⟩ := h; rfl
  · obtain ⟨x, v, y, S, st, l, t, rfl, hS, okS, hV, ok, hl, hY, okT, k⟩ := h
    have nd := scAfter.nd
    refine ⟨_, (pss_cons (ps_expr (pe_ca c_check_state (hr.mono (by decide)) (by rfl) pass0 (pa_cons (pv 0) (pa_cons (pv 1) (pa_cons (pv 3) pa_nil)))))
      (pss_cons (ps_set (i := 4) nd rfl (by first | exact Or.inl rfl | exact Or.inr rfl) (pe_ca c_done (hr.mono (by decide)) (by rfl) pass0 (pa_cons (pv 0) (pa_cons (pv 3) (pa_cons (pv 1) (pa_cons (pv 2) pa_nil))))))
      (pss_cons (ps_if (pt_cmp (pc_isN (pv 4))) (pss_one (ps_raise rfl (takes_of rfl rfl rfl rfl) (pmk_own PySem.F.excBase_ValueError BT.exc BT.g BT.kC (raises_own BT.sub BT.typ) (by rfl)))) pss_nil)
      (pss_one (ps_ret (pv 4)))))), ?_⟩
    refine ⟨_, rfl, _, rfl, _, rfl, x, v, S, st, l, rfl, hS, okS, hV, ok, hl, fun H1 s1 => ?_⟩
    refine ⟨_, rfl, _, rfl, _, rfl, _, rfl, x, v, y, S, st, l, t, rfl, sch_keep (Keep.of s1) hS, okS, mono_sta.go (Keep.of s1) hV, ok, thT_same s1 hY, okT, fun H2 u s2 hu => ?_⟩
    cases hd : doneM S l st t with
    | none =>
      rw [hd] at hu k
      obtain rfl : u = .non := hu
      exact ⟨_, rfl, _, rfl, ifT rfl (k _ (s1.trans s2))⟩
    | some s' =>
      rw [hd] at hu k
      have hu' : StaT H2 u s' := hu
      obtain ⟨b, xx, rfl, hb, hx⟩ := id hu'
      exact ⟨_, rfl, _, rfl, ifF rfl ⟨_, rfl, k _ _ (s1.trans s2) hu'⟩⟩
abbrev sWoven : Stmt := top 41
def spWoven (C C2 : Addr) : Sp := fun vs H Q E => ∃ (x y : V) (S : Sch) (l : Nat), vs = [x, y, .int l] ∧ SchT C H x S ∧ OkSch S ∧ l ≤ 4 ∧ spWov C C2 S l y H Q E
theorem scWoven : FnScope ["schedule", "history", "lag"] ["schedule", "history", "lag"] (defScope sWoven) := ⟨rfl, rfl, rfl, by decide +kernel, rfl, by decide +kernel, by decide +kernel⟩
theorem ok_woven (F : Fun K "woven" "woven" sWoven f fd) (T : Txt K mg C aW aX) (c_check_both : Ca P w K mg base CX0 3 "check_both" ["schedule", "lag"] (spCkBoth C)) (c_follow : Ca P w K mg base (L2.CX P w) 6 "follow" ["schedule", "lag", "history"] (spFollow C C2)) :
    FnOk P w K mg base (L2.CX P w) 7 f fd ["schedule", "history", "lag"] (spWoven C C2) := by
  refine F.okX scWoven (fun vs H Q E h => ?_) (fun cdv A outer s H vs Q E hr h => ?_)
  · obtain ⟨_, _, _, _, rfl, _⟩ := h; rfl
  · obtain ⟨x, y, S, l, rfl, hS, okS, hl, h⟩ := h
    refine ⟨_, (pss_cons (ps_expr (pe_ca c_check_both (hr.mono (by decide)) (by rfl) pass0 (pa_cons (pv 0) (pa_cons (pv 2) pa_nil))))
      (pss_one (ps_ret (pe_ca c_follow (hr.mono (by decide)) (by rfl) (passes_call (takes_of rfl rfl rfl rfl) (fun _ _ _ _ h => h)) (pa_cons (pv 0) (pa_cons (pv 2) (pa_cons (pv 1) pa_nil))))))), ?_⟩
    exact ⟨_, rfl, _, rfl, x, S, l, rfl, hS, hl, _, rfl, _, rfl, _, rfl, x, y, S, l, rfl, hS, okS, h⟩
end
end EL

set_option maxHeartbeats 4000000
namespace EL
open PySem L2
section
variable {P : Program} {w : World} {K : PySem.W.Frag} {mg : Str → Option Value} {base : Heap} {C aW aX f : Addr} {fd : FuncData}
/-! ### _law_number: some int -/
def ScrT (K : PySem.W.Frag) (H : Hp) (v : V) : Prop := ∃ (a : Addr) (ns : List Int), v = .ref a ∧ SqL K H a (ns.map V.int) ∧ ns.length ≤ 63
theorem scr_same {H H' : Hp} (s : Same H H') {v : V} (h : ScrT K H v) : ScrT K H' v := by
  obtain ⟨a, ns, e, q, l⟩ := h
  exact ⟨a, ns, e, s.seq q, l⟩
abbrev sNumber : Stmt := top 43
def spNumber (K : PySem.W.Frag) : Sp := fun vs H Q _ => ∃ (x : V) (i : Nat), vs = [x, .int i] ∧ ScrT K H x ∧ ∀ H' n, Same H H' → Q (.int n) H'
theorem scNumber : FnScope ["script", "index", "cells", "cell", "low", "high", "total", "blend"] ["script", "index"] (defScope sNumber) := ⟨rfl, rfl, rfl, by decide +kernel, rfl, by decide +kernel, by decide +kernel⟩
theorem ok_number (F : Fun K "_law_number" "_law_number" sNumber f fd) (T : Txt K mg C aW aX) : FnOk P w K mg base CX0 1 f fd ["script", "index"] (spNumber K) := by
  refine F.ok scNumber (fun vs H Q E h => ?_) (fun cdv A outer s H vs Q E hr h => ?_)
  · obtain ⟨_, _, rfl, _⟩ := h; rfl
  · obtain ⟨x, ix, rfl, ⟨a, ns, rfl, hS, l63⟩, k⟩ := h
    have nd := scNumber.nd
    refine ⟨_, (pss_cons (ps_set (i := 2) nd rfl (by first | exact Or.inl rfl | exact Or.inr rfl) (pe_ifExp (pt_cmpR (kNeD K rfl hr.units) (pv 0) (pe_lst pa_nil) (nomark _)) (pe_slice (kSlL K) (pv 0) po_none (po_some pe_int)) (pe_lst (pa_cons pe_int pa_nil))))
      (pss_cons (ps_set (i := 3) nd rfl (by first | exact Or.inl rfl | exact Or.inr rfl) (pe_op op_add (pe_ix (kIxL K) (pv 2) (pe_op op_mod (pe_callTy call_int1 (by rfl) T.n_int PySem.Pv.boot_int (pa_cons (pv 1) pa_nil)) (pe_callB (kLen K) (by rfl) T.n_len PySem.boot_len (pa_cons (pv 2) pa_nil))) (fun _ _ => rfl)) (pe_op op_mul pe_int (pe_op op_fdiv (pv 1) (pe_callB (kLen K) (by rfl) T.n_len PySem.boot_len (pa_cons (pv 2) pa_nil))))))
      (pss_cons (ps_par (i := 4) (j := 5) rfl nd rfl rfl (by decide) rfl rfl (pa_cons (pe_op op_mod (pe_callTy call_int1 (by rfl) T.n_int PySem.Pv.boot_int (pa_cons (pv 3) pa_nil)) pe_int) (pa_cons (pe_op op_mod (pe_callTy call_int1 (by rfl) T.n_int PySem.Pv.boot_int (pa_cons (pe_op op_fdiv (pv 3) pe_int) pa_nil)) pe_int) pa_nil)) rfl)
      (pss_cons (ps_set (i := 6) nd rfl (by first | exact Or.inl rfl | exact Or.inr rfl) (pe_op op_mod (pe_callTy call_int1 (by rfl) T.n_int PySem.Pv.boot_int (pa_cons (pe_callB (kSum K rfl rfl) (by rfl) T.n_sum (by decide +kernel) (pa_cons (pv 2) pa_nil)) pa_nil)) pe_int))
      (pss_cons (ps_set (i := 7) nd rfl (by first | exact Or.inl rfl | exact Or.inr rfl) (pe_op op_mod (pe_callTy call_int1 (by rfl) T.n_int PySem.Pv.boot_int (pa_cons (pe_op op_add (pe_op op_add (pe_op op_mul (pe_op op_add (pv 4) (pe_op op_mul pe_int (pv 1))) pe_int) (pe_op op_mul pe_int (pv 5))) (pv 6)) pa_nil)) pe_int))
      (pss_one (ps_ret (pe_op op_add (pe_op op_mul (pe_op op_mod (pe_callTy call_int1 (by rfl) T.n_int PySem.Pv.boot_int (pa_cons (pe_op op_mul (pv 7) (pe_op op_add (pe_op op_add (pv 7) (pe_op op_mul pe_int (pv 1))) pe_int)) pa_nil)) pe_int) pe_int) (pv 5))))))))), ?_⟩
    refine seq_cut (fun σ' H' => ∃ (p : Addr) (cs : List Int), σ' = [some (.ref a), some (.int ix), some (.ref p), none, none, none, none, none] ∧ Same H H' ∧ H' p = some (.lst (cs.map V.int)) ∧ 0 < cs.length ∧ cs.length ≤ 63) (fun R hRR => ?_) ?_
    · refine ⟨_, rfl, by show 0 ≤ sizeLine; decide, fun p hp => ?_⟩
      have s1 : Same H (upd H p (.lst [])) := Same.new hp
      refine ⟨.list (ns.map PyData.int), .list [], .lst (s1.seq hS) dp_intsL, .lst (.of upd_same) .nil, (Shp.lst (n := 0) (fun d hd => by obtain ⟨i, _, rfl⟩ := List.mem_map.mp hd; exact .int)).go, (Shp.lst (n := 0) (ds := []) (by intro d h; cases h)).go, _, rfl, ?_⟩
      cases ns with
      | nil =>
        refine ifF (by simp [PyData.eqv, PyData.eqvAll]) ⟨by show 1 ≤ sizeLine; decide, fun q hq => hRR _ _ ⟨q, [5], rfl, s1.trans (Same.new hq), upd_same, by decide, by decide⟩⟩
      | cons n r =>
        refine ifT (by simp [PyData.eqv, PyData.eqvAll]) ⟨_, rfl, noP ⟨63, rfl, a, _, rfl, s1.seq hS, fun q hq => hRR _ _ ⟨q, (n :: r).take 63, rfl, s1.trans (Same.new hq), ?_, by simp, by rw [List.length_take]; omega⟩⟩⟩
        refine upd_same.trans ?_
        rw [show (some (63 : Int)) = some ((63 : Nat) : Int) from rfl, cut_hi, List.map_take]
    · rintro σ' H1 ⟨p, cs, rfl, s1, hp, c0, c63⟩
      have lc : (cs.map V.int).length = cs.length := List.length_map ..
      have em : ((ix : Int) % ((cs.map V.int).length : Nat)) = ((ix % cs.length : Nat) : Int) := by rw [lc]; rfl
      obtain ⟨c, hc⟩ : ∃ c, cs[ix % cs.length]? = some c := ⟨cs[ix % cs.length]'(Nat.mod_lt _ c0), by simp⟩
      refine ⟨_, rfl, _, rfl, .inl ⟨_, rfl, _, rfl, p, _, rfl, .inl (.of hp), _, _, rfl, rfl, by rw [lc]; omega, ?_⟩⟩
      refine ⟨p, _, _, _, rfl, rfl, .of hp, at_of (j := ix % cs.length) em (v := .int c) (by rw [List.getElem?_map, hc]; rfl), ?_⟩
      refine ⟨_, rfl, _, rfl, p, _, rfl, .inl (.of hp), _, _, rfl, rfl, ⟨by rw [lc]; omega, by rw [lc]; omega⟩, _, _, rfl, rfl, .inl ⟨by decide, by decide⟩, _, _, rfl, rfl, ?_⟩
      generalize c + 13 * ((ix : Int) / ((cs.map V.int).length : Nat)) = cell
      refine ⟨_, rfl, .inl ⟨_, rfl, _, _, rfl, rfl, (by show (0 : Int) < _; decide), _, rfl, _, _, rfl, rfl, ⟨by decide, by decide⟩, .inl ⟨_, rfl, _, _, rfl, rfl, (by show (0 : Int) < _; decide), _, _, rfl, ?_⟩⟩⟩
      generalize hlow : cell % 1000003 = low
      generalize hhigh : cell / 1000003 % 999983 = high
      refine ⟨_, rfl, p, cs, rfl, .of hp, .inl ⟨_, rfl, _, _, rfl, rfl, (by show (0 : Int) < _; decide), ?_⟩⟩
      generalize htot : cs.sum % 65521 = tot
      refine ⟨_, rfl, _, rfl, _, _, rfl, rfl, .inl ⟨by decide, by decide⟩, _, _, rfl, rfl, _, _, rfl, rfl, .inr ⟨by decide, by decide⟩, _, rfl, _, _, rfl, rfl, .inl ⟨by decide, by decide⟩, _, _, rfl, rfl, _, rfl, _, _, rfl, rfl, .inl ⟨_, rfl, _, _, rfl, rfl, (by show (0 : Int) < _; decide), ?_⟩⟩
      generalize hbl : ((low + 977 * (ix : Int)) * 48271 + 31 * high + tot) % 2147483647 = bl
      have b0 : 0 ≤ bl := by rw [← hbl]; exact Int.emod_nonneg _ (by decide)
      have b1 : bl < 2147483647 := by rw [← hbl]; exact Int.emod_lt_of_pos _ (by decide)
      refine ⟨_, rfl, _, rfl, _, rfl, _, _, rfl, rfl, .inl ⟨by decide, by decide⟩, _, _, rfl, rfl, _, _, rfl, rfl, _, _, rfl, rfl, .inl ⟨by omega, by omega⟩, .inl ⟨_, rfl, _, _, rfl, rfl, (by show (0 : Int) < _; decide), _, _, rfl, rfl, .inr ⟨by decide, by decide⟩, _, rfl, _, _, rfl, rfl, k _ _ s1⟩⟩
/-! ### _law_edition -/
theorem at_in {ws : List Str} {z : Int} (h0 : 0 ≤ z) (h1 : z < (ws.length : Nat)) : ∃ w, w ∈ ws ∧ atI (ws.map V.str) z = some (.str w) := by
  have hl : z.toNat < ws.length := by omega
  refine ⟨ws[z.toNat], List.getElem_mem hl, at_of (j := z.toNat) (by omega) (by rw [List.getElem?_map]; simp [hl])⟩
abbrev sLEdition : Stmt := top 44
abbrev words6 : List Str := ["write", "public", "absent", "delete", "write", "public"]
theorem words6_in : ∀ w ∈ words6, w ∈ wordsL := by decide +kernel
def spLEdition : Sp := fun vs H Q _ => ∃ (sd : Int) (m : Nat), vs = [.int sd, .int m] ∧ (m = 1 ∨ m = 2) ∧ ∀ H' u ws, Same H H' → WordsT H' u ws → OkEd ws → ws.length = m → Q u H'
theorem scLEdition : FnScope ["seed", "many", "words", "place"] ["seed", "many"] (defScope sLEdition) := ⟨rfl, rfl, rfl, by decide +kernel, rfl, by decide +kernel, by decide +kernel⟩
theorem ok_law_edition (F : Fun K "_law_edition" "_law_edition" sLEdition f fd) (T : Txt K mg C aW aX) : FnOk P w K mg base CX0 1 f fd ["seed", "many"] spLEdition := by
  refine F.ok scLEdition (fun vs H Q E h => ?_) (fun cdv A outer s H vs Q E hr h => ?_)
  · obtain ⟨_, _, rfl, _⟩ := h; rfl
  · obtain ⟨sd, m, rfl, hm, k⟩ := h
    have nd := scLEdition.nd
    refine ⟨_, (pss_cons (ps_set (i := 2) nd rfl (by first | exact Or.inl rfl | exact Or.inr rfl) (pe_tup (pa_cons pe_str (pa_cons pe_str (pa_cons pe_str (pa_cons pe_str (pa_cons pe_str (pa_cons pe_str pa_nil))))))))
      (pss_one (ps_ret (pe_tupleOf (by rfl) T.n_tuple (pe_lc  (own := [("place", 3)]) rfl nd (pi_range1 (by rfl) T.n_range (pa_cons (pv 1) pa_nil)) (blkOk_by (by kernel_rfl)) (fun _ _ _ _ _ => (pg_name (i := 3) nd rfl (by first | exact Or.inl rfl | exact Or.inr rfl))) (fun _ _ _ _ _ => pts_nil) (fun _ _ _ _ _ => (pe_ix (kIxT K) (pv 2) (pe_op op_mod (pe_callTy call_int1 (by rfl) T.n_int PySem.Pv.boot_int (pa_cons (pe_op op_fdiv (pv 0) (pe_ix (kIxT K) (pe_tup (pa_cons pe_int (pa_cons pe_int pa_nil))) (pv 3) (fun _ _ => rfl))) pa_nil)) pe_int) (fun _ _ => rfl)))))))), ?_⟩
    refine ⟨by show 6 ≤ sizeLine; decide, fun wa hwa => ?_⟩
    have s1 : Same H (upd H wa (.tup (words6.map V.str))) := Same.new hwa
    refine ⟨_, rfl, _, rfl, by rcases hm with q | q <;> omega, by rcases hm with q | q <;> omega, ?_⟩
    rw [Int.toNat_natCast]
    refine fun D hD => lc_range (fun i H' => Same (upd H wa (.tup (words6.map V.str))) H' ∧ ∃ ws : List Str, H' D = some (.lst (ws.map V.str)) ∧ ws.length = i ∧ ∀ w ∈ ws, w ∈ wordsL) ⟨Same.new hD, [], upd_same, rfl, fun _ h => nomatch h⟩ ?_ ?_
    · rintro i H1 hi ⟨s2, ws, hw, lw, hin⟩
      rw [Int.zero_add]
      have hd : ∃ d : Int, (0 < d ∧ d < 1073741824) ∧ atI [V.int 1, V.int 6] (i : Nat) = some (.int d) := by
        rcases (show i = 0 ∨ i = 1 by rcases hm with q | q <;> omega) with rfl | rfl
        · exact ⟨1, by decide, rfl⟩
        · exact ⟨6, by decide, rfl⟩
      obtain ⟨d, db, hd⟩ := hd
      obtain ⟨wd, hwd, hat⟩ := at_in (ws := words6) (z := sd / d % 6) (Int.emod_nonneg _ (by decide)) (Int.emod_lt_of_pos _ (by decide))
      refine ⟨rfl, yes (ifT rfl ⟨_, rfl, _, rfl, by show 2 ≤ sizeLine; decide, fun p hp => ⟨_, rfl, p, _, _, _, rfl, rfl, .of upd_same, hd, _, _, rfl, rfl, db, .inl ⟨_, rfl, _, _, rfl, rfl, (by show (0 : Int) < _; decide), wa, _, _, _, rfl, rfl, .of ((Same.new hp).at (s2.at upd_same)), hat, _, (Same.new hp).at hw, ?_, (s2.trans (Same.new hp)).own hD, ws ++ [wd], ?_, ?_, ?_⟩⟩⟩)⟩
      · rw [List.length_map]; exact small1000 (by rcases hm with q | q <;> omega)
      · rw [List.map_append]; exact upd_same
      · rw [List.length_append, lw]; rfl
      · intro w' hw'
        rcases List.mem_append.mp hw' with q | q
        · exact hin w' q
        · rw [List.mem_singleton.mp q]; exact words6_in wd hwd
    · rintro H1 ⟨s2, ws, hw, lw, hin⟩
      exact .inl ⟨D, _, rfl, .of hw, fun q hq => k _ _ ws ((s1.trans s2).trans (Same.new hq)) ⟨q, rfl, upd_same⟩ ⟨by rw [lw]; exact hm, hin⟩ lw⟩
/-! ### _law_parts -/
def PartsT (H : Hp) (v : V) (S : Sch) : Prop := ∃ a x y, v = .ref a ∧ H a = some (.tup [.int S.width, x, y]) ∧ WordsT H x S.first ∧ StpsT H y S.steps
theorem mono_parts : Mono PartsT := ⟨fun k ⟨a, x, y, e, h, u, v⟩ => ⟨a, x, y, e, k _ _ h, mono_words.gt k u, mono_stps.gt k v⟩⟩
abbrev sLParts : Stmt := top 45
abbrev words5 : List Str := ["absent", "write", "absent", "public", "delete"]
theorem words5_in : ∀ w ∈ words5, w ∈ wordsL := by decide +kernel
abbrev kinds6 : List Str := ["edition", "fill", "edition", "sweep", "edition", "fill"]
theorem kinds6_in : ∀ w ∈ kinds6, w = "edition" ∨ w = "fill" ∨ w = "sweep" := by decide +kernel
def spLParts (K : PySem.W.Frag) : Sp := fun vs H Q _ => ∃ (x : V) (at_ m : Nat), vs = [x, .int at_, .int 6, .int m] ∧ ScrT K H x ∧ (m = 1 ∨ m = 2) ∧ ∀ H' u S, Same H H' → PartsT H' u S → OkSch S → S.first.length = m → Q u H'
theorem scLParts : FnScope ["script", "at", "top", "many", "seed", "steps", "words", "first", "turn", "late", "kind", "place"] ["script", "at", "top", "many"] (defScope sLParts) := ⟨rfl, rfl, rfl, by decide +kernel, rfl, by decide +kernel, by decide +kernel⟩
theorem ok_law_parts (F : Fun K "_law_parts" "_law_parts" sLParts f fd) (T : Txt K mg C aW aX) (c_law_number : Ca P w K mg base CX0 1 "_law_number" ["script", "index"] (spNumber K)) (c_law_edition : Ca P w K mg base CX0 1 "_law_edition" ["seed", "many"] spLEdition) :
    FnOk P w K mg base CX0 2 f fd ["script", "at", "top", "many"] (spLParts K) := by
  refine F.ok scLParts (fun vs H Q E h => ?_) (fun cdv A outer s H vs Q E hr h => ?_)
  · obtain ⟨_, _, _, rfl, _⟩ := h; rfl
  · obtain ⟨x, at_, m, rfl, hX, hm, k⟩ := h
    have nd := scLParts.nd
    refine ⟨_, (pss_cons (ps_asg (pe_tup (pa_cons (pe_callTy call_int1 (by rfl) T.n_int PySem.Pv.boot_int (pa_cons (pe_ca c_law_number (hr.mono (by decide)) (by rfl) pass0 (pa_cons (pv 0) (pa_cons (pv 1) pa_nil))) pa_nil)) (pa_cons (pe_lst pa_nil) pa_nil))) (kTg K (n := 2) rfl rfl (pgs_cons (pg_name (i := 4) nd rfl (by first | exact Or.inl rfl | exact Or.inr rfl)) (pgs_cons (pg_name (i := 5) nd rfl (by first | exact Or.inl rfl | exact Or.inr rfl)) pgs_nil))))
      (pss_cons (ps_set (i := 6) nd rfl (by first | exact Or.inl rfl | exact Or.inr rfl) (pe_tup (pa_cons pe_str (pa_cons pe_str (pa_cons pe_str (pa_cons pe_str (pa_cons pe_str pa_nil)))))))
      (pss_cons (ps_set (i := 7) nd rfl (by first | exact Or.inl rfl | exact Or.inr rfl) (pe_tupleOf (by rfl) T.n_tuple (pe_lc  (own := [("place", 11)]) rfl nd (pi_range1 (by rfl) T.n_range (pa_cons (pv 3) pa_nil)) (blkOk_by (by kernel_rfl)) (fun _ _ _ _ _ => (pg_name (i := 11) nd rfl (by first | exact Or.inl rfl | exact Or.inr rfl))) (fun _ _ _ _ _ => pts_nil) (fun _ _ _ _ _ => (pe_ix (kIxT K) (pv 6) (pe_op op_mod (pe_callTy call_int1 (by rfl) T.n_int PySem.Pv.boot_int (pa_cons (pe_op op_fdiv (pv 4) (pe_ix (kIxT K) (pe_tup (pa_cons pe_int (pa_cons pe_int pa_nil))) (pv 11) (fun _ _ => rfl))) pa_nil)) pe_int) (fun _ _ => rfl))))))
      (pss_cons (ps_for PassesOwn.never rfl (pi_range1 (by rfl) T.n_range (pa_cons (pe_op op_mod (pe_callTy call_int1 (by rfl) T.n_int PySem.Pv.boot_int (pa_cons (pe_op op_fdiv (pv 4) pe_int) pa_nil)) (pe_op op_add (pv 2) pe_int)) pa_nil)) (pg_name (i := 8) nd rfl (by first | exact Or.inl rfl | exact Or.inr rfl)) (pss_cons (ps_set (i := 9) nd rfl (by first | exact Or.inl rfl | exact Or.inr rfl) (pe_callTy call_int1 (by rfl) T.n_int PySem.Pv.boot_int (pa_cons (pe_ca c_law_number (hr.mono (by decide)) (by rfl) pass0 (pa_cons (pv 0) (pa_cons (pe_op op_add (pe_op op_add (pv 1) pe_int) (pv 8)) pa_nil))) pa_nil)))
      (pss_cons (ps_set (i := 10) nd rfl (by first | exact Or.inl rfl | exact Or.inr rfl) (pe_ix (kIxT K) (pe_tup (pa_cons pe_str (pa_cons pe_str (pa_cons pe_str (pa_cons pe_str (pa_cons pe_str (pa_cons pe_str pa_nil))))))) (pe_op op_mod (pe_callTy call_int1 (by rfl) T.n_int PySem.Pv.boot_int (pa_cons (pv 9) pa_nil)) pe_int) (fun _ _ => rfl)))
      (pss_one (ps_expr (pe_bm PySem.F.plainAttrs_list PySem.F.slot_list_append PySem.F.type_list_append mt_append (pv 5) (pa_cons (pe_tup (pa_cons (pv 10) (pa_cons (pe_ifExp (pt_cmpR op_eq (pv 10) pe_str (nomark _)) (pe_ca c_law_edition (hr.mono (by decide)) (by rfl) pass0 (pa_cons (pe_callTy call_int1 (by rfl) T.n_int PySem.Pv.boot_int (pa_cons (pe_op op_fdiv (pv 9) pe_int) pa_nil)) (pa_cons (pv 3) pa_nil))) (pe_op op_mod (pe_callTy call_int1 (by rfl) T.n_int PySem.Pv.boot_int (pa_cons (pe_op op_fdiv (pv 9) pe_int) pa_nil)) (pv 3))) pa_nil))) pa_nil)))))))
      (pss_one (ps_ret (pe_tup (pa_cons (pe_op op_add pe_int (pe_op op_mod (pe_callTy call_int1 (by rfl) T.n_int PySem.Pv.boot_int (pa_cons (pe_op op_fdiv (pv 4) pe_int) pa_nil)) (pe_op op_sub pe_int (pv 3)))) (pa_cons (pv 7) (pa_cons (pe_tupleOf (by rfl) T.n_tuple (pv 5)) pa_nil)))))))))), ?_⟩
    refine ⟨_, rfl, _, rfl, x, at_, rfl, hX, fun H1 sd s1 => .inl ⟨_, rfl, by show 0 ≤ sizeLine; decide, fun F hF1 => ⟨by show 2 ≤ sizeLine; decide, fun tp htp => ⟨tp, _, rfl, .of upd_same, rfl, _, _, rfl, _, _, rfl, rfl, ?_⟩⟩⟩⟩
    have hF : H F = none := same_none s1 hF1
    have s2 : Same H (upd H1 F (.lst [])) := s1.trans (Same.new hF1)
    refine ⟨by show 5 ≤ sizeLine; decide, fun wa hwa => ?_⟩
    have s3 : Same (upd H1 F (.lst [])) (upd (upd (upd H1 F (.lst [])) tp (.tup [.int sd, .ref F])) wa (.tup [.str "absent", .str "write", .str "absent", .str "public", .str "delete"])) := (Same.new htp).trans (Same.new hwa)
    generalize hH3 : upd (upd (upd H1 F (.lst [])) tp (.tup [.int sd, .ref F])) wa (.tup [.str "absent", .str "write", .str "absent", .str "public", .str "delete"]) = H3 at s3
    have hwa3 : H3 wa = some (.tup (words5.map V.str)) := by rw [← hH3]; exact upd_same
    have hF3 : H3 F = some (.lst []) := s3.at upd_same
    -- first
    refine ⟨_, rfl, _, rfl, by rcases hm with q | q <;> omega, by rcases hm with q | q <;> omega, ?_⟩
    rw [Int.toNat_natCast]
    refine fun D hD => lc_range (fun i H' => Same H3 H' ∧ ∃ ws : List Str, H' D = some (.lst (ws.map V.str)) ∧ ws.length = i ∧ ∀ w ∈ ws, w ∈ wordsL) ⟨Same.new hD, [], upd_same, rfl, fun _ h => nomatch h⟩ ?_ ?_
    · rintro i H4 hi ⟨s4, ws, hw, lw, hin⟩
      rw [Int.zero_add]
      have hd : ∃ d : Int, (0 < d ∧ d < 1073741824) ∧ atI [V.int 1, V.int 7] (i : Nat) = some (.int d) := by
        rcases (show i = 0 ∨ i = 1 by rcases hm with q | q <;> omega) with rfl | rfl
        · exact ⟨1, by decide, rfl⟩
        · exact ⟨7, by decide, rfl⟩
      obtain ⟨d, db, hd⟩ := hd
      obtain ⟨wd, hwd, hat⟩ := at_in (ws := words5) (z := sd / d % 5) (Int.emod_nonneg _ (by decide)) (Int.emod_lt_of_pos _ (by decide))
      refine ⟨rfl, yes (ifT rfl ⟨_, rfl, _, rfl, by show 2 ≤ sizeLine; decide, fun p hp => ⟨_, rfl, p, _, _, _, rfl, rfl, .of upd_same, hd, _, _, rfl, rfl, db, .inl ⟨_, rfl, _, _, rfl, rfl, (by show (0 : Int) < _; decide), wa, _, _, _, rfl, rfl, .of ((Same.new hp).at (s4.at hwa3)), hat, _, (Same.new hp).at hw, ?_, (s4.trans (Same.new hp)).own hD, ws ++ [wd], ?_, ?_, ?_⟩⟩⟩)⟩
      · rw [List.length_map]; exact small1000 (by rcases hm with q | q <;> omega)
      · rw [List.map_append]; exact upd_same
      · rw [List.length_append, lw]; rfl
      · intro w' hw'
        rcases List.mem_append.mp hw' with q | q
        · exact hin w' q
        · rw [List.mem_singleton.mp q]; exact words5_in wd hwd
    rintro H4 ⟨s4, ws, hw, lw, hin⟩
    refine .inl ⟨D, _, rfl, .of hw, fun fa hfa => ?_⟩
    have s34 : Same H3 (upd H4 fa (.tup (ws.map V.str))) := s4.trans (Same.new hfa)
    generalize hH5 : upd H4 fa (.tup (ws.map V.str)) = H5 at s34
    have hfa5 : H5 fa = some (.tup (ws.map V.str)) := by rw [← hH5]; exact upd_same
    have s5 : Same H H5 := (s2.trans s3).trans s34
    dsimp only
    -- steps
    refine seq_cut (fun σ' H' => ∃ (v8 v9 v10 : Option V) (ys : List V) (ts : List Stp), σ' = [some x, some (.int at_), some (.int 6), some (.int m), some (.int sd), some (.ref F), some (.ref wa), some (.ref fa), v8, v9, v10, none] ∧ Same H H' ∧ H' fa = some (.tup (ws.map V.str)) ∧
      H' F = some (.lst ys) ∧ Paired (StpT H') ys ts ∧ ts.length ≤ 6 ∧ ∀ t ∈ ts, OkStp m t) (fun R hRR => ?_) ?_
    · have q0 : 0 ≤ sd / 50 % 7 := Int.emod_nonneg _ (by decide)
      have q1 : sd / 50 % 7 < 7 := Int.emod_lt_of_pos _ (by decide)
      refine ⟨_, rfl, _, _, rfl, rfl, ⟨by decide, by decide⟩, .inl ⟨_, rfl, _, rfl, _, _, rfl, rfl, _, _, rfl, rfl, (by show (0 : Int) < _; decide), sd / 50 % 7, rfl, by omega, by omega, ?_⟩⟩
      refine for_range (fun i σ' H' => ∃ (v8 v9 v10 : Option V) (ys : List V) (ts : List Stp), σ' = [some x, some (.int at_), some (.int 6), some (.int m), some (.int sd), some (.ref F), some (.ref wa), some (.ref fa), v8, v9, v10, none] ∧ Same H H' ∧ H' fa = some (.tup (ws.map V.str)) ∧
        H' F = some (.lst ys) ∧ Paired (StpT H') ys ts ∧ ts.length = i ∧ ∀ t ∈ ts, OkStp m t) ⟨none, none, none, [], [], rfl, s5, hfa5, s34.at hF3, .nil, rfl, fun _ h => nomatch h⟩ ?_ ?_
      · rintro i σ' H6 hi ⟨v8, v9, v10, ys, ts, rfl, s6, hfa6, hF6, py, lt, hts⟩
        rw [Int.zero_add]
        have ly : ys.length ≤ 6 := by rw [py.e_len]; omega
        refine ⟨_, rfl, _, rfl, _, _, rfl, rfl, _, rfl, _, _, rfl, rfl, x, at_ + 1 + i, rfl, scr_same s6 hX, fun H7 late s7 => .inl ⟨_, rfl, ?_⟩⟩
        dsimp only
        obtain ⟨kd, hkd, hat⟩ := at_in (ws := kinds6) (z := late % 6) (Int.emod_nonneg _ (by decide)) (Int.emod_lt_of_pos _ (by decide))
        refine ⟨by show 6 ≤ sizeLine; decide, fun p hp => ⟨_, rfl, .inl ⟨_, rfl, _, _, rfl, rfl, (by show (0 : Int) < _; decide), p, _, _, _, rfl, rfl, .of upd_same, hat, ?_⟩⟩⟩
        have s8 : Same H6 (upd H7 p (.tup [.str "edition", .str "fill", .str "edition", .str "sweep", .str "edition", .str "fill"])) := s7.trans (Same.new hp)
        generalize hH8 : upd H7 p (.tup [.str "edition", .str "fill", .str "edition", .str "sweep", .str "edition", .str "fill"]) = H8 at s8
        dsimp only
        have m0 : (0 : Int) < m := by rcases hm with q | q <;> omega
        -- what is appended
        have fin : ∀ (H9 : Hp) (v : V) (t : Stp), Same H6 H9 → (∀ q, H9 q = none → StpT (upd H9 q (.tup [.str kd, v])) (.ref q) t) → OkStp m t → ∀ q, H9 q = none → 
            ∃ (v8 v9 v10 : Option V) (ys' : List V) (ts' : List Stp), [some x, some (.int at_), some (.int 6), some (.int m), some (.int sd), some (.ref F), some (.ref wa), some (.ref fa), some (.int (i : Nat)), some (.int late), some (.str kd), none] = [some x, some (.int at_), some (.int 6), some (.int m), some (.int sd), some (.ref F), some (.ref wa), some (.ref fa), v8, v9, v10, none] ∧
              Same H (upd (upd H9 q (.tup [.str kd, v])) F (.lst (ys ++ [.ref q]))) ∧ (upd (upd H9 q (.tup [.str kd, v])) F (.lst (ys ++ [.ref q]))) fa = some (.tup (ws.map V.str)) ∧ (upd (upd H9 q (.tup [.str kd, v])) F (.lst (ys ++ [.ref q]))) F = some (.lst ys') ∧ Paired (StpT (upd (upd H9 q (.tup [.str kd, v])) F (.lst (ys ++ [.ref q])))) ys' ts' ∧ ts'.length = i + 1 ∧ ∀ t ∈ ts', OkStp m t := by
          intro H9 v t s9 ht ot q hq
          have s10 : Same H6 (upd H9 q (.tup [.str kd, v])) := s9.trans (Same.new hq)
          have kk : Keep (upd H9 q (.tup [.str kd, v])) (upd (upd H9 q (.tup [.str kd, v])) F (.lst (ys ++ [.ref q]))) := Keep.lst (s10.at hF6)
          refine ⟨_, _, _, ys ++ [.ref q], ts ++ [t], rfl, (s6.trans s10).own hF, kk.t _ _ (s10.at hfa6), upd_same, ?_, by rw [List.length_append, lt]; rfl, ?_⟩
          · exact (mono_paired mono_stp ((Keep.of s10).trans kk) py).e_snoc (mono_stp.go kk (ht q hq))
          · intro t' ht'
            rcases List.mem_append.mp ht' with z | z
            · exact hts t' z
            · rw [List.mem_singleton.mp z]; exact ot
        refine ⟨_, rfl, .inl ⟨rfl, _, .of (s8.at hF6)⟩, _, rfl, _, rfl, rfl, _, rfl, ?_⟩
        rcases kinds6_in kd hkd with rfl | rfl | rfl
        · refine ifT rfl ⟨_, rfl, _, _, rfl, rfl, ⟨by decide, by decide⟩, .inl ⟨_, rfl, _, rfl, _, m, rfl, hm, fun H9 u es s9 hu he hl => ⟨by show 2 ≤ sizeLine; decide, fun q hq => ⟨F, ys, .ref q, rfl, rfl, (s8.trans s9 |>.trans (Same.new hq)).at hF6, small1000 (by omega), ?_⟩⟩⟩⟩
          exact fin H9 u (.ed es) (s8.trans s9) (fun q hq => ⟨q, u, rfl, upd_same, mono_words.go (Keep.new hq) hu⟩) ⟨he, hl⟩ q hq
        · have z0 : 0 ≤ late / 6 % (m : Int) := Int.emod_nonneg _ (by omega)
          have z1 : late / 6 % (m : Int) < m := Int.emod_lt_of_pos _ m0
          refine ifF rfl ⟨_, rfl, _, _, rfl, rfl, ⟨by decide, by decide⟩, .inl ⟨_, rfl, _, rfl, _, _, rfl, rfl, m0, by show 2 ≤ sizeLine; decide, fun q hq => ⟨F, ys, .ref q, rfl, rfl, (s8.trans (Same.new hq)).at hF6, small1000 (by omega), ?_⟩⟩⟩
          refine fin H8 (.int (late / 6 % (m : Int))) (.fill (late / 6 % (m : Int)).toNat) s8 (fun q hq => ⟨q, rfl, ?_⟩) (by show (late / 6 % (m : Int)).toNat < m; omega) q hq
          rw [Int.toNat_of_nonneg z0]; exact upd_same
        · have z0 : 0 ≤ late / 6 % (m : Int) := Int.emod_nonneg _ (by omega)
          have z1 : late / 6 % (m : Int) < m := Int.emod_lt_of_pos _ m0
          refine ifF rfl ⟨_, rfl, _, _, rfl, rfl, ⟨by decide, by decide⟩, .inl ⟨_, rfl, _, rfl, _, _, rfl, rfl, m0, by show 2 ≤ sizeLine; decide, fun q hq => ⟨F, ys, .ref q, rfl, rfl, (s8.trans (Same.new hq)).at hF6, small1000 (by omega), ?_⟩⟩⟩
          refine fin H8 (.int (late / 6 % (m : Int))) (.sweep (late / 6 % (m : Int)).toNat) s8 (fun q hq => ⟨q, rfl, ?_⟩) (by show (late / 6 % (m : Int)).toNat < m; omega) q hq
          rw [Int.toNat_of_nonneg z0]; exact upd_same
      · rintro σ' H6 ⟨v8, v9, v10, ys, ts, rfl, s6, hfa6, hF6, py, lt, hts⟩
        exact hRR _ _ ⟨v8, v9, v10, ys, ts, rfl, s6, hfa6, hF6, py, by omega, hts⟩
    · rintro σ' H6 ⟨v8, v9, v10, ys, ts, rfl, s6, hfa6, hF6, py, lt, hts⟩
      have w0 : 0 ≤ sd / 400 % (4 - (m : Int)) := Int.emod_nonneg _ (by rcases hm with q | q <;> omega)
      have w1 : sd / 400 % (4 - (m : Int)) < 4 - (m : Int) := Int.emod_lt_of_pos _ (by rcases hm with q | q <;> omega)
      refine ⟨_, rfl, _, _, rfl, rfl, ⟨by decide, by decide⟩, .inl ⟨_, rfl, _, rfl, _, _, rfl, rfl, _, _, rfl, rfl, (by show (0 : Int) < 4 - (m : Int); rcases hm with q | q <;> omega), _, _, rfl, rfl, _, rfl, _, rfl, .inl ⟨F, ys, rfl, .of hF6, fun p hp => ⟨by show 3 ≤ sizeLine; decide, fun q hq => ?_⟩⟩⟩⟩
      have s7 : Same H6 (upd (upd H6 p (.tup ys)) q (.tup [.int (1 + sd / 400 % (4 - (m : Int))), .ref fa, .ref p])) := (Same.new hp).trans (Same.new hq)
      refine k _ _ ⟨(1 + sd / 400 % (4 - (m : Int))).toNat, ws, ts⟩ (s6.trans s7) ⟨q, .ref fa, .ref p, rfl, ?_, ⟨fa, rfl, s7.at hfa6⟩, ⟨p, ys, rfl, (Same.new hq).at upd_same, mono_paired mono_stp (Keep.of s7) py⟩⟩ ?_ lw
      · rw [show (((1 + sd / 400 % (4 - (m : Int))).toNat : Nat) : Int) = 1 + sd / 400 % (4 - (m : Int)) from Int.toNat_of_nonneg (by omega)]
        exact upd_same
      · refine ⟨?_, ?_, ⟨by rw [lw]; exact hm, hin⟩, by show ts.length ≤ 12; omega, ?_⟩
        · show 1 ≤ (1 + sd / 400 % (4 - (m : Int))).toNat; omega
        · show (1 + sd / 400 % (4 - (m : Int))).toNat ≤ 3; omega
        · show ∀ t ∈ ts, OkStp ws.length t
          rw [lw]; exact hts
end
end EL

set_option maxHeartbeats 4000000
namespace EL
open PySem L2
/-- a class that may be called -/
structure CaM (P : Program) (w : World) (K : PySem.W.Frag) (mg : Str → Option Value) (base : Heap) (C : Addr) (k : Nat) (sp : Sp) : Prop where
  ex : ∃ f fd ps, Mk K C f ∧ FnOk P w K mg base CX0 k f fd ps sp ∧ Binds K fd ps []
theorem pe_mk {X : Cx} {C : Addr} {k : Nat} {sp : Sp} {x : Str} {e : Expr} {es : List Expr} {p pos : Pos} {t : TA} (c : CaM X.prog X.w X.K X.mg X.base C k sp) (hr : Room (k + 1) X.A) (hg : Gl X x) (hm : X.mg x = some (.ref C)) (ha : PA X (e :: es) t)
    (hdb : (x == ("__debug__" : Str)) = false := by decide) (he : starEach (e :: es) X.env = (false, eval e X.env) :: starEach es X.env := by rfl) (hpl : (backTo pos (starEach es X.env)).any (·.1) = false := by rfl) :
    PE X (.Call (.Name x p) (e :: es) [] pos) (tMake C sp [] E0 t) := by
  obtain ⟨f, fd, ps, M, F, hb⟩ := c
  exact pe_make M F hr hg hm hb .nil pass0 ha hdb he hpl
section
variable {P : Program} {w : World} {K : PySem.W.Frag} {mg : Str → Option Value} {base : Heap} {C aW aX f : Addr} {fd : FuncData}
/-! ### _law_made -/
abbrev sLMade : Stmt := top 47
def spLMade (C : Addr) : Sp := fun vs H Q _ => ∃ (x : V) (S : Sch), vs = [x] ∧ PartsT H x S ∧ OkSch S ∧ ∀ H' u, Same H H' → SchT C H' u S → Q u H'
theorem scLMade : FnScope ["parts"] ["parts"] (defScope sLMade) := ⟨rfl, rfl, rfl, by decide +kernel, rfl, by decide +kernel, by decide +kernel⟩
theorem ok_law_made (F : Fun K "_law_made" "_law_made" sLMade f fd) (T : Txt K mg C aW aX) (c_Schedule : CaM P w K mg base C 4 (spInit C)) : FnOk P w K mg base CX0 6 f fd ["parts"] (spLMade C) := by
  refine F.ok scLMade (fun vs H Q E h => ?_) (fun cdv A outer s H vs Q E hr h => ?_)
  · obtain ⟨_, _, rfl, _⟩ := h; rfl
  · obtain ⟨x, S, rfl, ⟨a, x, y, rfl, ha, hx, hy⟩, okS, k⟩ := h
    refine ⟨_, (pss_one (ps_ret (pe_mk c_Schedule (hr.mono (by decide)) (by rfl) T.g_Schedule (pa_cons (pe_ix (kIxT K) (pv 0) pe_int (fun _ _ => rfl)) (pa_cons (pe_ix (kIxT K) (pv 0) pe_int (fun _ _ => rfl)) (pa_cons (pe_ix (kIxT K) (pv 0) pe_int (fun _ _ => rfl)) pa_nil)))))), ?_⟩
    refine ⟨_, rfl, a, _, _, _, rfl, rfl, .of ha, rfl, _, rfl, a, _, _, _, rfl, rfl, .of ha, rfl, _, rfl, a, _, _, _, rfl, rfl, .of ha, rfl, fun p dx hp hdx hne => ?_⟩
    have s1 : Same H (upd (upd H dx (.own p)) p (.ins C dx [])) := (Same.new hdx).own hp
    exact ⟨p, dx, x, y, S, rfl, upd_same, mono_words.go (Keep.of s1) hx, mono_stps.go (Keep.of s1) hy, okS, fun H' kp hS => ⟨rfl, k H' _ (fun b o e => kp b o (s1 b o e) (ne_of_none e hp)) hS⟩⟩
/-! ### _law_window -/
abbrev sLWindow : Stmt := top 48
def edsL (S : Sch) (b : Nat) : List (List Str) := S.first :: (S.steps.take b).filterMap Stp.ed?
theorem edsL_len (S : Sch) (b : Nat) : (edsL S b).length = eds S b := by
  unfold edsL eds
  rw [List.length_cons, ed_filter, Nat.add_comm]
theorem edsL_at {S : Sch} {b n : Nat} {e : List Str} (h : (edsL S b)[n]? = some e) : S.every.getD n [] = e := by
  have q : S.every = edsL S b ++ (S.steps.drop b).filterMap Stp.ed? := by
    unfold Sch.every edsL
    rw [List.cons_append, ← List.filterMap_append, List.take_append_drop]
  refine getD_of ?_
  rw [q, List.getElem?_append_left (lt_of_at h)]
  exact h
def WinT (S : Sch) (H : Hp) (v : V) (n : Nat) : Prop := ∃ a x, v = .ref a ∧ H a = some (.tup [.int n, x]) ∧ WordsT H x (S.every.getD n [])
theorem mono_win {S : Sch} : Mono (WinT S) := ⟨fun k ⟨a, x, e, h, u⟩ => ⟨a, x, e, k _ _ h, mono_words.gt k u⟩⟩
def spLWindow : Sp := fun vs H Q _ => ∃ (x : V) (S : Sch) (b l : Nat), vs = [x, .int b, .int l] ∧ PartsT H x S ∧ OkSch S ∧ ∀ H' u, Same H H' → LstOf (WinT S) H' u (win S b l) → Q u H'
theorem scLWindow : FnScope ["parts", "begun", "loss", "every", "found", "number", "edition", "step"] ["parts", "begun", "loss"] (defScope sLWindow) := ⟨rfl, rfl, rfl, by decide +kernel, rfl, by decide +kernel, by decide +kernel⟩
theorem ok_law_window (F : Fun K "_law_window" "_law_window" sLWindow f fd) (T : Txt K mg C aW aX) : FnOk P w K mg base CX0 1 f fd ["parts", "begun", "loss"] spLWindow := by
  refine F.ok scLWindow (fun vs H Q E h => ?_) (fun cdv A outer s H vs Q E hr h => ?_)
  · obtain ⟨_, _, _, _, rfl, _⟩ := h; rfl
  · obtain ⟨x, S, b, l, rfl, ⟨a, x, y, rfl, ha, hx, ⟨c, ys, rfl, hc, pc⟩⟩, okS, k⟩ := h
    have nd := scLWindow.nd
    have h12 := okS.n12
    have h13 := eds_small h12 b
    refine ⟨_, (pss_cons (ps_set (i := 3) nd rfl (by first | exact Or.inl rfl | exact Or.inr rfl) (pe_op op_cat (pe_lst (pa_cons (pe_ix (kIxT K) (pv 0) pe_int (fun _ _ => rfl)) pa_nil)) (pe_lc  (own := [("step", 7)]) rfl nd (kPiT K rfl (pe_slice (kSlA K) (pe_ix (kIxT K) (pv 0) pe_int (fun _ _ => rfl)) po_none (po_some (pv 1)))) (blkOk_by (by kernel_rfl)) (fun _ _ _ _ _ => (pg_name (i := 7) nd rfl (by first | exact Or.inl rfl | exact Or.inr rfl))) (fun _ _ _ _ _ => (pts_one (pt_cmpR op_eq (pe_ix (kIxT K) (pv 7) pe_int (fun _ _ => rfl)) pe_str (nomark _)))) (fun _ _ _ _ _ => (pe_ix (kIxT K) (pv 7) pe_int (fun _ _ => rfl))))))
      (pss_cons (ps_setLc (i := 4) (own := [("number", 5), ("edition", 6)]) rfl nd rfl rfl (sw_true rfl rfl rfl (by decide +kernel)) (pi_enum (by rfl) T.n_enumerate (pa_cons (pv 3) pa_nil)) (blkOk_by (by kernel_rfl)) (fun _ _ _ _ _ => (kTg K (n := 2) rfl rfl (pgs_cons (pg_name (i := 5) nd rfl (by first | exact Or.inl rfl | exact Or.inr rfl)) (pgs_cons (pg_name (i := 6) nd rfl (by first | exact Or.inl rfl | exact Or.inr rfl)) pgs_nil)))) (fun _ _ _ _ _ => pts_nil) (fun _ _ _ _ _ => (pe_tup (pa_cons (pv 5) (pa_cons (pv 6) pa_nil)))))
      (pss_one (ps_ret (pe_slice (kSlL K) (pv 4) (po_some (pe_callB (call_max2 rfl) (by rfl) T.n_max (by decide +kernel) (pa_cons pe_int (pa_cons (pe_op op_sub (pe_op op_sub (pe_callB (kLen K) (by rfl) T.n_len PySem.boot_len (pa_cons (pv 4) pa_nil)) (pv 2)) pe_int) pa_nil)))) po_none))))), ?_⟩
    refine ⟨_, rfl, a, _, _, _, rfl, rfl, .of ha, rfl, by show 1 ≤ sizeLine; decide, fun L hL => ?_⟩
    have s1 : Same H (upd H L (.lst [x])) := Same.new hL
    refine ⟨_, rfl, a, _, _, _, rfl, rfl, .of (s1.at ha), rfl, noP ⟨_, rfl, b, rfl, slA_intro (s1.at hc) fun d H2 s2 hd => ?_⟩⟩
    rw [cut_hi] at hd
    have s12 := s1.trans s2
    refine ⟨d, rfl, ⟨_, .of hd⟩, fun D hD => lc_tup (K := K) (a := d) (xs := ys.take b) (fun i H' => Same H2 H' ∧ ∃ zs, H' D = some (.lst zs) ∧ Paired (WordsT H') zs (((S.steps.take b).take i).filterMap Stp.ed?))
      ⟨Same.new hD, [], upd_same, .nil⟩ (fun i H' _ h => SqT.of (h.1 _ _ hd)) ?_ ?_⟩
    · rintro i v H' hi ⟨s5, zs, hz, pz⟩
      have pc1 : Paired (StpT H') (ys.take b) (S.steps.take b) := (mono_paired mono_stp (Keep.of (s12.trans s5)) pc).e_take b
      obtain ⟨t, ht, rt⟩ := pc1.e_at hi
      have hil := lt_of_at ht
      obtain ⟨g, u, rfl, hg, e1, e2, e3⟩ := stp_at rt
      refine ⟨rfl, _, rfl, g, _, _, _, rfl, rfl, .of hg, at0, rfl, _, rfl, ?_⟩
      rw [not_ed_kind, filt_ed ht]
      have lz : zs.length ≤ 12 := by
        rw [pz.e_len]
        refine Nat.le_trans (len_filt _ _) ?_
        rw [List.length_take]; omega
      cases t with
      | ed e =>
        refine ifT rfl ⟨_, rfl, g, _, _, _, rfl, rfl, .of hg, at1, zs, hz, small1000 (by omega), Same.own s5 hD, zs ++ [u], upd_same, ?_⟩
        have kp : Keep H' (upd H' D (.lst (zs ++ [u]))) := Keep.lst hz
        exact (mono_paired mono_words kp pz).e_snoc (mono_words.go kp (e1 e rfl))
      | fill i => exact ifF rfl ⟨s5, zs, hz, by rw [List.append_nil]; exact pz⟩
      | sweep i => exact ifF rfl ⟨s5, zs, hz, by rw [List.append_nil]; exact pz⟩
    · rintro H3 ⟨s5, zs, hz, pz⟩
      have ly : (ys.take b).length = (S.steps.take b).length := by rw [List.length_take, List.length_take, pc.e_len]
      rw [ly, List.take_length] at pz
      have s13 := s2.trans s5
      refine ⟨L, D, [x], zs, rfl, rfl, s13.at upd_same, hz, ?_, fun ev hev => ?_⟩
      · have lz : zs.length ≤ 12 := by rw [pz.e_len]; have := List.length_filterMap_le Stp.ed? (S.steps.take b); rw [List.length_take] at this; omega
        exact Nat.le_of_lt (small1000 (by show 1 + _ ≤ 1000; omega))
      have s6 : Same H (upd H3 ev (.lst ([x] ++ zs))) := (s1.trans s13).trans (Same.new hev)
      have pe : Paired (WordsT (upd H3 ev (.lst ([x] ++ zs)))) ([x] ++ zs) (edsL S b) := .cons (mono_words.go (Keep.of s6) hx) (mono_paired mono_words (Keep.new hev) pz)
      generalize hH4 : upd H3 ev (.lst ([x] ++ zs)) = H4 at s6 pe
      have hev4 : H4 ev = some (.lst ([x] ++ zs)) := by rw [← hH4]; exact upd_same
      have le : ([x] ++ zs).length = eds S b := by rw [pe.e_len, edsL_len]
      generalize [x] ++ zs = xs at pe hev4 le
      dsimp only
      -- found
      refine ⟨_, rfl, ev, xs, rfl, .of hev4, fun D2 hD2 => lc_it (walk_enum (xs := xs)) (fun i H' => Same H4 H' ∧ ∃ zs, H' D2 = some (.lst zs) ∧ Paired (WinT S H') zs (List.range i)) ⟨Same.new hD2, [], upd_same, .nil⟩ (fun i H' _ h => SqL.of (h.1.at hev4)) ?_ ?_⟩
      · rintro i y H5 H6 hi ⟨s7, zs, hz, pz⟩ ⟨T1, x1, x2, rfl, hT, rfl, e1, e2⟩
        cases e1
        obtain ⟨ed, hed, red⟩ := pe.e_at e2
        have s8 : Same H4 (upd H5 T1 (.tup [.int (i : Nat), x2])) := s7.trans (Same.new hT)
        refine ⟨T1, _, rfl, .of upd_same, rfl, _, _, rfl, _, _, rfl, rfl, rfl, yes (ifT rfl ⟨_, rfl, _, rfl, by show 2 ≤ sizeLine; decide, fun p hp => ⟨zs, ?_, ?_, ?_⟩⟩)⟩
        · exact ((Same.new hT).trans (Same.new hp)).at hz
        · have : zs.length = i := by rw [pz.e_len, List.length_range]
          exact small1000 (by omega)
        · have kk : Keep H5 (upd (upd (upd H5 T1 (.tup [.int (i : Nat), x2])) p (.tup [.int (i : Nat), x2])) D2 (.lst (zs ++ [.ref p]))) := (Keep.of ((Same.new hT).trans (Same.new hp))).trans (Keep.lst (((Same.new hT).trans (Same.new hp)).at hz))
          have k3 : Keep (upd (upd H5 T1 (.tup [.int (i : Nat), x2])) p (.tup [.int (i : Nat), x2])) (upd (upd (upd H5 T1 (.tup [.int (i : Nat), x2])) p (.tup [.int (i : Nat), x2])) D2 (.lst (zs ++ [.ref p]))) := Keep.lst (((Same.new hT).trans (Same.new hp)).at hz)
          refine ⟨(s8.trans (Same.new hp)).own hD2, zs ++ [.ref p], upd_same, ?_⟩
          rw [List.range_succ]
          refine (mono_paired mono_win kk pz).e_snoc ⟨p, x2, rfl, k3.t _ _ upd_same, ?_⟩
          rw [edsL_at hed]
          exact mono_words.go ((Keep.of s7).trans kk) red
      · rintro H5 ⟨s7, zs, hz, pz⟩
        rw [le] at pz
        have lz : zs.length = eds S b := by rw [pz.e_len, List.length_range]
        refine ⟨_, rfl, _, rfl, D2, zs, rfl, .inl (.of hz), _, rfl, _, _, rfl, rfl, _, _, rfl, rfl, _, _, rfl, _, rfl, D2, zs, rfl, .of hz, fun p hp => ?_⟩
        refine k _ _ (s6.trans (s7.trans (Same.new hp))) ⟨p, zs.drop (eds S b - (l + 1)), rfl, ?_, ?_⟩
        · refine upd_same.trans ?_
          have ez : (if ((zs.length : Nat) : Int) - (l : Nat) - 1 > 0 then ((zs.length : Nat) : Int) - (l : Nat) - 1 else 0) = ((eds S b - (l + 1) : Nat) : Int) := by
            rw [lz]
            by_cases q : ((eds S b : Nat) : Int) - (l : Nat) - 1 > 0
            · rw [if_pos q]; omega
            · rw [if_neg q]; omega
          show some (HO.lst (cutV zs (some (if ((zs.length : Nat) : Int) - (l : Nat) - 1 > 0 then ((zs.length : Nat) : Int) - (l : Nat) - 1 else 0)) none)) = _
          rw [ez, cut_lo]
        · unfold win
          exact (mono_paired mono_win (Keep.new hp) pz).e_drop _
end
end EL

set_option maxHeartbeats 4000000
namespace EL
open PySem L2
section
variable {P : Program} {w : World} {K : PySem.W.Frag} {mg : Str → Option Value} {base : Heap} {C aW aX f : Addr} {fd : FuncData}
/-! ### _law_served -/
abbrev sLServed : Stmt := top 49
def spLServed : Sp := fun vs H Q _ => ∃ (e x : V) (ws : List Str) (es : List (List Int)) (old new : Option Int), vs = [e, rowV old, rowV new, x] ∧ WordsT H e ws ∧ EntsT H x es ∧ ws.length = es.length ∧ AscL es ∧ es.length ≤ 60 ∧
  ∀ H' u, Same H H' → EntsT H' u (servedM ws old new es) → Q u H'
theorem scLServed : FnScope ["edition", "old", "new", "entries", "found", "word", "some", "rest", "one"] ["edition", "old", "new", "entries"] (defScope sLServed) := ⟨rfl, rfl, rfl, by decide +kernel, rfl, by decide +kernel, by decide +kernel⟩
theorem outV_snoc (s : List Int) (n : Int) (r : Option Int) : outV (s ++ [n]) r = outV s r ++ (if V.int n = rowV r then [] else [n]) := by
  unfold outV
  rw [List.filter_append]
  by_cases c : V.int n = rowV r <;> simp [c]
theorem ok_law_served (F : Fun K "_law_served" "_law_served" sLServed f fd) (T : Txt K mg C aW aX) : FnOk P w K mg base CX0 1 f fd ["edition", "old", "new", "entries"] spLServed := by
  refine F.ok scLServed (fun vs H Q E h => ?_) (fun cdv A outer s H vs Q E hr h => ?_)
  · obtain ⟨_, _, _, _, _, _, rfl, _⟩ := h; rfl
  · obtain ⟨e, x, ws, es, old, new, rfl, ⟨a, rfl, ha⟩, ⟨b, xs, rfl, hb, pb⟩, hl, asc, h60, k⟩ := h
    have nd := scLServed.nd
    refine ⟨_, (pss_cons (ps_set (i := 4) nd rfl (by first | exact Or.inl rfl | exact Or.inr rfl) (pe_lst pa_nil))
      (pss_cons (ps_for PassesOwn.never rfl (RZ.pi_zipA (by rfl) T.n_zip (pa_cons (pv 0) (pa_cons (pv 3) pa_nil))) (kTg K (n := 2) rfl rfl (pgs_cons (pg_name (i := 5) nd rfl (by first | exact Or.inl rfl | exact Or.inr rfl)) (pgs_cons (pg_name (i := 6) nd rfl (by first | exact Or.inl rfl | exact Or.inr rfl)) pgs_nil))) (pss_cons (ps_set (i := 7) nd rfl (by first | exact Or.inl rfl | exact Or.inr rfl) (pe_callTy (kList K) (by rfl) T.n_list (by decide +kernel) (pa_cons (pv 6) pa_nil)))
      (pss_cons (ps_if (pt_cmpR op_ne (pv 5) pe_str (nomark _)) (pss_one (ps_setLc (i := 7) (own := [("one", 8)]) rfl nd rfl rfl (sw_true rfl rfl rfl (by decide +kernel)) (kPiL K rfl (pv 7)) (blkOk_by (by kernel_rfl)) (fun _ _ _ _ _ => (pg_name (i := 8) nd rfl (by first | exact Or.inl rfl | exact Or.inr rfl))) (fun _ _ _ _ _ => (pts_one (pt_cmpR op_ne (pv 8) (pv 1) (nomark _)))) (fun _ _ _ _ _ => (pv 8)))) pss_nil)
      (pss_cons (ps_if (PW.pt (pw_and (pt_cmpR (kIn K) (pv 5) (pe_tup (pa_cons pe_str (pa_cons pe_str pa_nil))) rfl) (pw_and (pt_cmp (pc_notN (pv 2))) (pw_and1 (pt_cmpR (kNotIn K) (pv 2) (pv 7) rfl))))) (pss_one (ps_expr (pe_bm PySem.F.plainAttrs_list PySem.F.slot_list_append PySem.F.type_list_append mt_append (pv 7) (pa_cons (pv 2) pa_nil)))) pss_nil)
      (pss_one (ps_expr (pe_bm PySem.F.plainAttrs_list PySem.F.slot_list_append PySem.F.type_list_append mt_append (pv 4) (pa_cons (pe_tupleOf (by rfl) T.n_tuple (pe_callB (kSorted K) (by rfl) T.n_sorted (by decide +kernel) (pa_cons (pv 7) pa_nil))) pa_nil))))))))
      (pss_one (ps_ret (pe_tupleOf (by rfl) T.n_tuple (pv 4)))))), ?_⟩
    refine ⟨by show 0 ≤ sizeLine; decide, fun F hF => ?_⟩
    have lx : xs.length = es.length := pb.e_len
    refine ⟨_, rfl, _, rfl, a, b, _, _, rfl, .inr ⟨.of ((Same.new hF).at ha), .of ((Same.new hF).at hb), RZ.for_zipT (by rw [List.length_map]; omega)
      (fun i σ H' => ∃ v1 v2 v3 : Option V, σ = [some (.ref a), some (rowV old), some (rowV new), some (.ref b), some (.ref F), v1, v2, v3, none] ∧ Same H H' ∧ ∃ ys, H' F = some (.lst ys) ∧ Paired (IntsT H') ys ((servedM ws old new es).take i))
      ⟨none, none, none, rfl, Same.new hF, [], upd_same, .nil⟩ (fun i σ H' ⟨_, _, _, _, s1, _⟩ => ⟨.of (s1.at ha), .of (s1.at hb)⟩) ?_ ?_⟩⟩
    · rintro i y z T1 σ H' hy hz ⟨v1, v2, v3, rfl, s1, ys, hys, py⟩ hT
      obtain ⟨wd, hwd, rfl⟩ := map_at hy
      obtain ⟨en, hen, ren⟩ := pb.e_at hz
      obtain ⟨as_en, len_en⟩ := asc en (List.mem_of_getElem? hen)
      have hes : (servedM ws old new es)[i]? = some (srv wd old new en) := by
        unfold servedM
        rw [List.getElem?_zipWith, hwd, hen]
      have hil := lt_of_at hen
      have s2 : Same H (upd H' T1 (.tup [.str wd, z])) := s1.trans (Same.new hT)
      obtain ⟨zb, rfl, hzb⟩ := mono_ints.go (Keep.of s2) ren
      have sT : Same H' (upd H' T1 (.tup [.str wd, .ref zb])) := Same.new hT
      refine ⟨T1, _, rfl, .of upd_same, rfl, _, _, rfl, _, _, rfl, rfl, ?_⟩
      -- rest
      refine ⟨_, rfl, zb, _, rfl, .inr (.of hzb), fun p hp => ?_⟩
      have hp0 : H' p = none := same_none sT hp
      have s3 : Same H' (upd (upd H' T1 (.tup [.str wd, .ref zb])) p (.lst (en.map V.int))) := sT.own hp0
      dsimp only
      refine seq_cut (fun σ' H2 => ∃ (q : Addr) (en2 : List Int), σ' = [some (.ref a), some (rowV old), some (rowV new), some (.ref b), some (.ref F), some (.str wd), some (.ref zb), some (.ref q), none] ∧ Same H' H2 ∧ H' q = none ∧ H2 q = some (.lst (en2.map V.int)) ∧
          en2 = (if wd = ("absent" : Str) then en else outV en old) ∧ Asc en2 ∧ en2.length ≤ 50) (fun R hR => ?_) ?_
      · refine ⟨_, rfl, rfl, _, rfl, ?_⟩
        by_cases c : wd = ("absent" : Str)
        · exact ifF (by simp [c]) (hR _ _ ⟨p, en, rfl, s3, hp0, upd_same, by rw [if_pos c], as_en, len_en⟩)
        · refine ifT (by simp [c]) ?_
          have hpp : (upd (upd H' T1 (.tup [.str wd, .ref zb])) p (.lst (en.map V.int))) p = some (.lst (en.map V.int)) := upd_same
          generalize hH3 : upd (upd H' T1 (.tup [.str wd, .ref zb])) p (.lst (en.map V.int)) = H3 at s3 hpp
          refine ⟨_, rfl, p, rfl, ⟨_, .of hpp⟩, fun D hD => lc_list (K := K) (a := p) (xs := en.map V.int) (fun i H' => Same H3 H' ∧ H' D = some (.lst ((outV (en.take i) old).map V.int)) ∧ (outV (en.take i) old).length ≤ i) ⟨Same.new hD, upd_same, by simp [outV]⟩ (fun i H' _ h => SqL.of (h.1.at hpp)) ?_ ?_⟩
          · rintro j y H4 hj ⟨s4, h4, l4⟩
            obtain ⟨n, hn, rfl⟩ := map_at hj
            have hjl := lt_of_at hn
            refine ⟨rfl, _, rfl, _, rfl, ?_, _, rfl, ?_⟩
            · cases old <;> rfl
            · rw [take_succ hn, outV_snoc]
              by_cases co : V.int n = rowV old
              · rw [if_pos co]
                refine ifF (by rw [decide_eq_true co]; rfl) ⟨s4, ?_, ?_⟩
                · rw [List.append_nil]; exact h4
                · rw [List.append_nil]; omega
              · rw [if_neg co]
                refine ifT (by rw [decide_eq_false co]; rfl) ⟨_, rfl, _, h4, ?_, s4.own hD, ?_, ?_⟩
                · rw [List.length_map]; exact small1000 (by omega)
                · rw [List.map_append]; exact upd_same
                · rw [List.length_append]; simp; omega
          · rintro H4 ⟨s4, h4, l4⟩
            rw [List.length_map, List.take_length] at h4
            exact hR _ _ ⟨D, outV en old, rfl, s3.trans s4, same_none s3 hD, h4, by rw [if_neg c], asc_outV as_en _, Nat.le_trans (len_outV _ _) len_en⟩
      rintro σ' H2 ⟨q, en2, rfl, s4, hq0, hq, e2, as2, l2⟩
      refine seq_cut (fun σ' H3 => ∃ (en3 : List Int), σ' = [some (.ref a), some (rowV old), some (rowV new), some (.ref b), some (.ref F), some (.str wd), some (.ref zb), some (.ref q), none] ∧ Same H' H3 ∧ H3 q = some (.lst (en3.map V.int)) ∧ en3.length ≤ 51 ∧
          ∀ ns : List Int, ns.Perm en3 → ns.Pairwise (· ≤ ·) → ns = srv wd old new en) (fun R hR => ?_) ?_
      · have same3 : (∀ v, new = some v → (wd = ("public" : Str) ∨ wd = ("write" : Str)) → v ∈ en2) → ∀ ns : List Int, ns.Perm en2 → ns.Pairwise (· ≤ ·) → ns = srv wd old new en := by
          intro hv ns pm so
          have e1 := sorted_same as2 pm so
          have e3 : srv wd old new en = en2 := by
            rw [e2]; unfold srv
            cases new with
            | none => rfl
            | some v =>
              dsimp only
              by_cases cw : wd = ("public" : Str) ∨ wd = ("write" : Str)
              · rw [if_pos cw, ← e2]; exact addV_same as2 (hv v rfl cw)
              · rw [if_neg cw]
          rw [e1, e3]
        refine ⟨_, rfl, by show 2 ≤ sizeLine; decide, fun r hr => ?_⟩
        have s5 : Same H2 (upd H2 r (.tup [.str "write", .str "public"])) := Same.new hr
        refine ⟨r, _, rfl, .inr (.of upd_same), rfl, rfl, _, rfl, ?_⟩
        have ew : L2.inV (V.str wd) [V.str "write", V.str "public"] = decide (wd ∈ (["write", "public"] : List Str)) := inV_words (s := ["write", "public"])
        by_cases cw : wd ∈ (["write", "public"] : List Str)
        · refine ifT (by show L2.inV _ _ = true; rw [ew, decide_eq_true cw]) ⟨_, rfl, _, rfl, ?_⟩
          have cw' : wd = ("public" : Str) ∨ wd = ("write" : Str) := by simpa [or_comm] using cw
          cases new with
          | none => exact ifF rfl (ifF rfl (hR _ _ ⟨en2, rfl, s4.trans s5, s5.at hq, by omega, same3 (fun v h => nomatch h)⟩))
          | some v =>
            refine ifT rfl ⟨_, rfl, _, rfl, q, _, rfl, .inl (.of (s5.at hq)), rfl, flat_ints _, _, rfl, ?_⟩
            by_cases cv : v ∈ en2
            · refine ifF (by show (!L2.inV (V.int v) _) = false; rw [inV_ints, decide_eq_true cv]; rfl) (hR _ _ ⟨en2, rfl, s4.trans s5, s5.at hq, by omega, same3 (fun v' h _ => by cases h; exact cv)⟩)
            · refine ifT (by show (!L2.inV (V.int v) _) = true; rw [inV_ints, decide_eq_false cv]; rfl) ⟨_, rfl, .inl ⟨rfl, _, .of (s5.at hq)⟩, _, rfl, q, _, _, rfl, rfl, s5.at hq, by rw [List.length_map]; exact small1000 (by omega), hR _ _ ⟨en2 ++ [v], rfl, (s4.trans s5).own hq0, by rw [List.map_append]; exact upd_same, by rw [List.length_append]; simp; omega, fun ns pm so => ?_⟩⟩
              rw [sorted_addV as2 cv pm so, e2]
              unfold srv
              dsimp only
              rw [if_pos cw']
        · refine ifF (by show L2.inV _ _ = false; rw [ew, decide_eq_false cw]) (ifF rfl (hR _ _ ⟨en2, rfl, s4.trans s5, s5.at hq, by omega, same3 (fun v _ h => absurd (by simpa [or_comm] using h) cw)⟩))
      · rintro σ' H3 ⟨en3, rfl, s5, hq3, l3, srt⟩
        have hF3 : H3 F = some (.lst ys) := s5.at hys
        have lys : ys.length = i := by rw [py.e_len, List.length_take]; unfold servedM; rw [List.length_zipWith]; omega
        refine ⟨_, rfl, .inl ⟨rfl, _, .of hF3⟩, _, rfl, q, en3, rfl, .of hq3, by omega, fun ns' r pm so hr => .inl ⟨r, _, rfl, .of upd_same, fun t ht => ?_⟩⟩
        have e3 := srt ns' pm so
        subst e3
        have s6 : Same H3 (upd (upd H3 r (.lst ((srv wd old new en).map V.int))) t (.tup ((srv wd old new en).map V.int))) := (Same.new hr).trans (Same.new ht)
        refine ⟨F, ys, .ref t, rfl, rfl, s6.at hF3, small1000 (by omega), _, _, _, rfl, ((s1.trans s5).trans s6).own hF, ys ++ [.ref t], upd_same, ?_⟩
        rw [take_succ hes]
        have kp : Keep (upd (upd H3 r (.lst ((srv wd old new en).map V.int))) t (.tup ((srv wd old new en).map V.int))) (upd (upd (upd H3 r (.lst ((srv wd old new en).map V.int))) t (.tup ((srv wd old new en).map V.int))) F (.lst (ys ++ [.ref t]))) := Keep.lst (s6.at hF3)
        exact (mono_paired mono_ints ((Keep.of (s5.trans s6)).trans kp) py).e_snoc ⟨t, rfl, kp.t _ _ upd_same⟩
    · rintro σ H' ⟨v1, v2, v3, rfl, s1, ys, hys, py⟩
      have e1 : (servedM ws old new es).take (ws.map V.str).length = servedM ws old new es := by
        apply List.take_of_length_le
        unfold servedM; rw [List.length_zipWith, List.length_map]; omega
      rw [e1] at py
      exact ⟨_, rfl, .inl ⟨F, ys, rfl, .of hys, fun q hq => k _ _ (s1.trans (Same.new hq)) ⟨q, ys, rfl, upd_same, mono_paired mono_ints (Keep.new hq) py⟩⟩⟩
/-! ### _law_visited -/
theorem paired_set {α β : Type} {R : α → β → Prop} : ∀ {xs : List α} {ys : List β} {x : α} {y : β} (i : Nat), Paired R xs ys → R x y → Paired R (xs.set i x) (ys.set i y)
  | _, _, _, _, _, .nil, _ => .nil
  | _, _, _, _, 0, .cons _ t, q => .cons q t
  | _, _, _, _, i + 1, .cons r t, q => .cons r (paired_set i t q)
theorem ixN_nat {n i : Nat} (h : i < n) : ixN n (i : Int) = some i := by
  unfold ixN
  rw [if_pos (by omega), if_pos (by omega)]; simp
abbrev sLVisited : Stmt := top 50
theorem scLVisited : FnScope ["step", "row", "entries", "found"] ["step", "row", "entries"] (defScope sLVisited) := ⟨rfl, rfl, rfl, by decide +kernel, rfl, by decide +kernel, by decide +kernel⟩
theorem ok_law_visited (F : Fun K "_law_visited" "_law_visited" sLVisited f fd) (T : Txt K mg C aW aX) : FnOk P w K mg base CX0 1 f fd ["step", "row", "entries"] spVisited := by
  refine F.ok scLVisited (fun vs H Q E h => ?_) (fun cdv A outer s H vs Q E hr h => ?_)
  · obtain ⟨_, _, _, _, _, rfl, _⟩ := h; rfl
  · obtain ⟨x, y, t, row, es, rfl, ht, hne, ok, ⟨ea, xs, rfl, hea, pe⟩, asc, h60, k⟩ := h
    have nd := scLVisited.nd
    obtain ⟨a, u, rfl, ha, e1, e2, e3⟩ := stp_at ht
    obtain ⟨i, hi, hil⟩ : ∃ i : Nat, u = .int i ∧ i < es.length := by
      cases t with
      | ed e => cases hne
      | fill i => exact ⟨i, e2 i rfl, ok⟩
      | sweep i => exact ⟨i, e3 i rfl, ok⟩
    subst hi
    have lx := pe.e_len
    obtain ⟨en, hen⟩ : ∃ en, es[i]? = some en := ⟨es[i], by simp [hil]⟩
    obtain ⟨z, hz, rz⟩ := pe.e_at2 hen
    obtain ⟨as_en, len_en⟩ := asc en (List.mem_of_getElem? hen)
    refine ⟨_, (pss_cons (ps_set (i := 3) nd rfl (by first | exact Or.inl rfl | exact Or.inr rfl) (pe_callTy (kList K) (by rfl) T.n_list (by decide +kernel) (pa_cons (pv 2) pa_nil)))
      (pss_cons (ps_if (pt_cmpR op_eq (pe_ix (kIxT K) (pv 0) pe_int (fun _ _ => rfl)) pe_str (nomark _)) (pss_one (ps_asg (pe_tup pa_nil) (pg_sub (pv 3) (pe_ix (kIxT K) (pv 0) pe_int (fun _ _ => rfl)) set_list))) (pss_one (ps_if (pt_cmp (pc_notN (pv 1))) (pss_one (ps_asg (pe_tupleOf (by rfl) T.n_tuple (pe_callB (cr_sortedSet rfl) (by rfl) T.n_sorted (by decide +kernel) (pa_cons (pe_callTy (cr_setL K rfl rfl) (by rfl) T.n_set (by decide +kernel) (pa_cons (pe_op op_cat (pe_callTy (kList K) (by rfl) T.n_list (by decide +kernel) (pa_cons (pe_ix (kIxL K) (pv 3) (pe_ix (kIxT K) (pv 0) pe_int (fun _ _ => rfl)) (fun _ _ => rfl)) pa_nil)) (pe_lst (pa_cons (pv 1) pa_nil))) pa_nil)) pa_nil))) (pg_sub (pv 3) (pe_ix (kIxT K) (pv 0) pe_int (fun _ _ => rfl)) set_list))) pss_nil)))
      (pss_one (ps_ret (pe_tupleOf (by rfl) T.n_tuple (pv 3)))))), ?_⟩
    refine ⟨_, rfl, ea, xs, rfl, .inr (.of hea), fun l hl => ?_⟩
    have s1 : Same H (upd H l (.lst xs)) := Same.new hl
    dsimp only
    refine seq_cut (fun σ' H' => ∃ ys : List V, σ' = [some (.ref a), some (rowV row), some (.ref ea), some (.ref l)] ∧ Same H H' ∧ H' l = some (.lst ys) ∧ Paired (IntsT H') ys (visitedM t row es)) (fun R hR => ?_) ?_
    · refine ⟨_, rfl, a, _, _, _, rfl, rfl, .of (s1.at ha), at0, rfl, _, rfl, ?_⟩
      cases t with
      | ed e => cases hne
      | sweep j =>
        have hj : i = j := by have q := e3 j rfl; injection q with q; omega
        subst hj
        refine ifT rfl ⟨by show 0 ≤ sizeLine; decide, fun p hp => ?_⟩
        have s2 : Same H (upd (upd H l (.lst xs)) p (.tup [])) := s1.trans (Same.new hp)
        have hl2 : (upd (upd H l (.lst xs)) p (.tup [])) l = some (.lst xs) := (Same.new hp).at upd_same
        refine ⟨_, rfl, _, rfl, a, _, _, _, rfl, rfl, .of (s2.at ha), at1, l, xs, _, i, rfl, rfl, hl2, ixN_nat (by omega), hR _ _ ⟨_, rfl, s2.own hl, upd_same, ?_⟩⟩
        have kk : Keep (upd (upd H l (.lst xs)) p (.tup [])) (upd (upd (upd H l (.lst xs)) p (.tup [])) l (.lst (xs.set i (.ref p)))) := Keep.lst hl2
        exact paired_set i (mono_paired mono_ints ((Keep.of s2).trans kk) pe) ⟨p, rfl, kk.t _ _ upd_same⟩
      | fill j =>
        have hj : i = j := by have q := e2 j rfl; injection q with q; omega
        subst hj
        refine ifF rfl ⟨_, rfl, _, rfl, ?_⟩
        cases row with
        | none =>
          exact ifF rfl (hR _ _ ⟨xs, rfl, s1, upd_same, mono_paired mono_ints (Keep.of s1) pe⟩)
        | some v =>
          obtain ⟨zb, rfl, hzb⟩ := rz
          refine ifT rfl ⟨_, rfl, _, rfl, a, _, _, _, rfl, rfl, .of (s1.at ha), at1, l, _, _, _, rfl, rfl, .of upd_same, atI_nat hz, zb, _, rfl, .inr (.of (s1.at hzb)), fun l2 hl2 => ⟨_, rfl, by show 1 ≤ sizeLine; decide, fun l3 hl3 => ⟨l2, l3, _, _, rfl, rfl, (Same.new hl3).at upd_same, upd_same, ?_, fun l4 hl4 => ?_⟩⟩⟩
          · rw [List.length_map]; exact Nat.le_of_lt (small1000 (by show _ + 1 ≤ 1000; omega))
          refine ⟨l4, en ++ [v], rfl, .of (upd_same.trans (by rw [List.map_append]; rfl)), by rw [List.length_append]; simp; omega, fun p5 c hp5 hc => ?_⟩
          have lc : c < 64 := by rw [List.length_append] at hc; simp at hc; omega
          refine ⟨p5, _, c, rfl, upd_same, lc, fun ns p6 so mem _ hp6 => .inl ⟨p6, _, rfl, .of upd_same, fun p7 hp7 => ?_⟩⟩
          have ens : ns = addV en v := asc_ext so (asc_addV as_en v) fun q => by
            rw [mem q, decide_eq_true_eq, mem_addV, List.mem_append, List.mem_singleton]
          subst ens
          have s2 : Same (upd H l (.lst xs)) _ := (((((Same.new hl2).trans (Same.new hl3)).trans (Same.new hl4)).trans (Same.new hp5)).trans (Same.new hp6)).trans (Same.new (o := .tup ((addV en v).map V.int)) hp7)
          refine ⟨_, rfl, _, rfl, a, _, _, _, rfl, rfl, .of ((s1.trans s2).at ha), at1, l, xs, _, i, rfl, rfl, s2.at upd_same, ixN_nat (by omega), hR _ _ ⟨_, rfl, (s1.trans s2).own hl, upd_same, ?_⟩⟩
          have kk := Keep.lst (o := .lst (xs.set i (.ref p7))) (s2.at (upd_same (H := H) (a := l) (o := .lst xs)))
          show Paired _ _ (es.set i (addV (es.getD i []) v))
          rw [getD_of hen]
          exact paired_set i (mono_paired mono_ints ((Keep.of (s1.trans s2)).trans kk) pe) ⟨p7, rfl, kk.t _ _ upd_same⟩
    · rintro σ' H' ⟨ys, rfl, s2, hl2, py⟩
      exact ⟨_, rfl, .inl ⟨l, ys, rfl, .of hl2, fun q hq => k _ _ (s2.trans (Same.new hq)) ⟨q, ys, rfl, upd_same, mono_paired mono_ints (Keep.new hq) py⟩⟩⟩
end
end EL

set_option maxHeartbeats 4000000
namespace EL
open PySem L2
theorem not_win {S : Sch} {H : Hp} {xs : List V} {rs : List (Deed × Sta)} {ns : List Nat} (h : Paired (RowT H) xs rs) (g : Paired (WinT S H) xs ns) (hn : 0 < ns.length) : False := by
  cases g with
  | nil => simp at hn
  | cons q _ =>
    cases h with
    | cons p _ =>
      obtain ⟨a, x, y, rfl, h1, ⟨d, rfl, _⟩, _⟩ := p
      obtain ⟨b, z, e, h2, _⟩ := q
      cases e
      rw [h1] at h2
      injection h2 with q1; injection q1 with q1; injection q1 with q1 _
      cases q1
section
variable {P : Program} {w : World} {K : PySem.W.Frag} {mg : Str → Option Value} {base : Heap} {C aW aX f : Addr} {fd : FuncData}
/-! ### _law_moves -/
abbrev sLMoves : Stmt := top 51
def spLMoves : Sp := fun vs H Q _ => ∃ (x v : V) (S : Sch) (st : Sta) (l : Nat), vs = [x, .int l, v] ∧ PartsT H x S ∧ OkSch S ∧ StaT H v st ∧ OkSta S st ∧
  ∀ H' u, Same H H' → LstOf RowT H' u (rowsIn S l st) → Q u H'
theorem scLMoves : FnScope ["parts", "loss", "state", "begun", "is_due", "row", "entries", "values", "first", "steps", "found", "some", "number", "edition", "value"] ["parts", "loss", "state"] (defScope sLMoves) := ⟨rfl, rfl, rfl, by decide +kernel, rfl, by decide +kernel, by decide +kernel⟩
theorem ok_law_moves (F : Fun K "_law_moves" "_law_moves" sLMoves f fd) (T : Txt K mg C aW aX) (c_law_visited : Ca P w K mg base CX0 1 "_law_visited" ["step", "row", "entries"] spVisited) (c_law_window : Ca P w K mg base CX0 1 "_law_window" ["parts", "begun", "loss"] spLWindow)
    (c_law_served : Ca P w K mg base CX0 1 "_law_served" ["edition", "old", "new", "entries"] spLServed) :
    FnOk P w K mg base CX0 2 f fd ["parts", "loss", "state"] spLMoves := by
  refine F.ok scLMoves (fun vs H Q E h => ?_) (fun cdv A outer s H vs Q E hr h => ?_)
  · obtain ⟨_, _, _, _, _, rfl, _⟩ := h; rfl
  · obtain ⟨x, v, S, st, l, rfl, hP, okS, hV, ok, k⟩ := h
    have nd := scLMoves.nd
    obtain ⟨pa, fx, y, rfl, ha, hx, ⟨c, ys, rfl, hc, pc⟩⟩ := id hP
    obtain ⟨sa, se, rfl, hs, hE⟩ := hV
    obtain ⟨ea, xs, rfl, hea, pe⟩ := id hE
    have ly := pc.e_len
    have lx := pe.e_len
    have lf := okS.first.len
    have h60 : st.ents.length ≤ 60 := by have := ok.len; rcases lf with q | q <;> omega
    have asc := asc_sta okS ok
    refine ⟨_, (pss_cons (ps_asg (pv 2) (kTg K (n := 4) rfl rfl (pgs_cons (pg_name (i := 3) nd rfl (by first | exact Or.inl rfl | exact Or.inr rfl)) (pgs_cons (pg_name (i := 4) nd rfl (by first | exact Or.inl rfl | exact Or.inr rfl)) (pgs_cons (pg_name (i := 5) nd rfl (by first | exact Or.inl rfl | exact Or.inr rfl)) (pgs_cons (pg_name (i := 6) nd rfl (by first | exact Or.inl rfl | exact Or.inr rfl)) pgs_nil))))))
      (pss_cons (ps_asg (pv 0) (kTg K (n := 3) rfl rfl (pgs_cons (pg_name (i := 7) nd rfl (by first | exact Or.inl rfl | exact Or.inr rfl)) (pgs_cons (pg_name (i := 8) nd rfl (by first | exact Or.inl rfl | exact Or.inr rfl)) (pgs_cons (pg_name (i := 9) nd rfl (by first | exact Or.inl rfl | exact Or.inr rfl)) pgs_nil)))))
      (pss_cons (ps_set (i := 10) nd rfl (by first | exact Or.inl rfl | exact Or.inr rfl) (pe_lst pa_nil))
      (pss_cons (ps_if (PW.pt (pw_and (pt_not (pt_val (pv 4))) (pw_and1 (pt_cmpR op_lt (pv 3) (pe_callB (kLen K) (by rfl) T.n_len PySem.boot_len (pa_cons (pv 9) pa_nil)) (nomark _))))) (pss_one (ps_expr (pe_bm PySem.F.plainAttrs_list PySem.F.slot_list_append PySem.F.type_list_append mt_append (pv 10) (pa_cons (pe_tup (pa_cons (pe_tup (pa_cons pe_str pa_nil)) (pa_cons (pe_tup (pa_cons (pe_op op_add (pv 3) pe_int) (pa_cons (pe_cmpR (kIn K) (pe_ix (kIxT K) (pe_ix (kIxT K) (pv 9) (pv 3) (fun _ _ => rfl)) pe_int (fun _ _ => rfl)) (pe_tup (pa_cons pe_str (pa_cons pe_str pa_nil))) rfl) (pa_cons (pv 5) (pa_cons (pv 6) pa_nil))))) pa_nil))) pa_nil)))) pss_nil)
      (pss_cons (ps_if (pt_val (pv 4)) (pss_one (ps_expr (pe_bm PySem.F.plainAttrs_list PySem.F.slot_list_append PySem.F.type_list_append mt_append (pv 10) (pa_cons (pe_tup (pa_cons (pe_tup (pa_cons pe_str pa_nil)) (pa_cons (pe_tup (pa_cons (pv 3) (pa_cons pe_bl (pa_cons (pv 5) (pa_cons (pe_ca c_law_visited (hr.mono (by decide)) (by rfl) pass0 (pa_cons (pe_ix (kIxT K) (pv 9) (pe_op op_sub (pv 3) pe_int) (fun _ _ => rfl)) (pa_cons (pv 5) (pa_cons (pv 6) pa_nil)))) pa_nil))))) pa_nil))) pa_nil)))) pss_nil)
      (pss_cons (ps_set (i := 11) nd rfl (by first | exact Or.inl rfl | exact Or.inr rfl) (pe_ca c_law_window (hr.mono (by decide)) (by rfl) pass0 (pa_cons (pv 0) (pa_cons (pv 3) (pa_cons (pv 1) pa_nil)))))
      (pss_cons (ps_for PassesOwn.never rfl (kPiL K rfl (pe_ifExp (pt_cmp (pc_notN (pv 5))) (pv 11) (pe_lst pa_nil))) (kTg K (n := 2) rfl rfl (pgs_cons (pg_name (i := 12) nd rfl (by first | exact Or.inl rfl | exact Or.inr rfl)) (pgs_cons (pg_name (i := 13) nd rfl (by first | exact Or.inl rfl | exact Or.inr rfl)) pgs_nil))) (pss_one (ps_expr (pe_bm PySem.F.plainAttrs_list PySem.F.slot_list_append PySem.F.type_list_append mt_append (pv 10) (pa_cons (pe_tup (pa_cons (pe_tup (pa_cons pe_str (pa_cons (pv 12) pa_nil))) (pa_cons (pe_tup (pa_cons (pv 3) (pa_cons (pv 4) (pa_cons pe_non (pa_cons (pe_ca c_law_served (hr.mono (by decide)) (by rfl) pass0 (pa_cons (pv 13) (pa_cons (pv 5) (pa_cons pe_non (pa_cons (pv 6) pa_nil))))) pa_nil))))) pa_nil))) pa_nil)))))
      (pss_cons (ps_for PassesOwn.never rfl (kPiL K rfl (pv 11)) (kTg K (n := 2) rfl rfl (pgs_cons (pg_name (i := 12) nd rfl (by first | exact Or.inl rfl | exact Or.inr rfl)) (pgs_cons (pg_name (i := 13) nd rfl (by first | exact Or.inl rfl | exact Or.inr rfl)) pgs_nil))) (pss_one (ps_for PassesOwn.never rfl (kPiL K rfl (pe_lc  (own := [("value", 14)]) rfl nd (pi_range1 (by rfl) T.n_range (pa_cons (pv 7) pa_nil)) (blkOk_by (by kernel_rfl)) (fun _ _ _ _ _ => (pg_name (i := 14) nd rfl (by first | exact Or.inl rfl | exact Or.inr rfl))) (fun _ _ _ _ _ => (pts_one (pt_cmpR op_ne (pv 14) (pv 5) (nomark _)))) (fun _ _ _ _ _ => (pv 14)))) (pg_name (i := 14) nd rfl (by first | exact Or.inl rfl | exact Or.inr rfl)) (pss_one (ps_expr (pe_bm PySem.F.plainAttrs_list PySem.F.slot_list_append PySem.F.type_list_append mt_append (pv 10) (pa_cons (pe_tup (pa_cons (pe_tup (pa_cons pe_str (pa_cons (pv 12) (pa_cons (pv 14) pa_nil)))) (pa_cons (pe_tup (pa_cons (pv 3) (pa_cons (pv 4) (pa_cons (pv 14) (pa_cons (pe_ca c_law_served (hr.mono (by decide)) (by rfl) pass0 (pa_cons (pv 13) (pa_cons (pv 5) (pa_cons (pv 14) (pa_cons (pv 6) pa_nil))))) pa_nil))))) pa_nil))) pa_nil)))))))
      (pss_one (ps_ret (pv 10))))))))))), ?_⟩
    refine ⟨_, rfl, sa, _, rfl, .of hs, rfl, _, _, rfl, _, _, rfl, _, _, rfl, _, _, rfl, rfl, ?_⟩
    refine ⟨_, rfl, pa, _, rfl, .of ha, rfl, _, _, rfl, _, _, rfl, _, _, rfl, rfl, ?_⟩
    refine ⟨by show 0 ≤ sizeLine; decide, fun F hF => ?_⟩
    dsimp only
    -- begin
    refine seq_cut (fun σ' H' => σ' = [some (.ref pa), some (.int l), some (.ref sa), some (.int st.begun), some (.bl st.due), some (rowV st.row), some (.ref ea), some (.int S.width), some fx, some (.ref c), some (.ref F), none, none, none, none] ∧ Same H H' ∧ FndT H' F (rowsA S st)) (fun R hRR => ?_) ?_
    · have s1 : Same H (upd H F (.lst [])) := Same.new hF
      refine ⟨_, rfl, st.due, rfl, ?_⟩
      cases hd : st.due with
      | true =>
        refine ifF rfl (hRR _ _ ⟨by rw [hd]; rfl, s1, [], upd_same, ?_⟩)
        have e0 : rowsA S st = [] := by unfold rowsA; rw [if_neg (by rw [hd]; simp)]
        rw [e0]; exact .nil
      | false =>
        refine ifT rfl ⟨_, rfl, _, rfl, c, ys, rfl, .inr (.of (s1.at hc)), _, _, rfl, rfl, _, rfl, ?_⟩
        by_cases cb : st.begun < S.steps.length
        · refine ifT (decide_eq_true (by omega)) ?_
          obtain ⟨t, ht⟩ : ∃ t, S.steps[st.begun]? = some t := ⟨S.steps[st.begun], by simp [cb]⟩
          obtain ⟨u, hu, ru⟩ := pc.e_at2 ht
          obtain ⟨g, u2, rfl, hg, _⟩ := stp_at ru
          refine ⟨_, rfl, .inl ⟨rfl, _, .of upd_same⟩, by show 1 ≤ sizeLine; decide, fun p1 hp1 => ?_⟩
          have s2 := s1.trans (Same.new (o := .tup [.str "begin"]) hp1)
          refine ⟨_, rfl, _, _, rfl, rfl, _, rfl, _, rfl, c, ys, _, _, rfl, rfl, .of (s2.at hc), atI_nat hu, g, _, _, _, rfl, rfl, .of (s2.at hg), at0, by show 2 ≤ sizeLine; decide, fun r hr => ⟨r, _, rfl, .inr (.of upd_same), rfl, rfl, _, rfl, _, rfl,
            by show 4 ≤ sizeLine; decide, fun p2 hp2 => ⟨by show 2 ≤ sizeLine; decide, fun p3 hp3 => ?_⟩⟩⟩
          have s3 := s2.trans (Same.new (o := .tup [.str "fill", .str "sweep"]) hr)
          obtain ⟨s4, r4⟩ := row_mk (d := .begin) (s := ⟨st.begun + 1, L2.inV (.str t.kind) [.str "fill", .str "sweep"], st.row, st.ents⟩) hp1 (Same.new hr) hp2 hp3 (mono_ents.go (Keep.of s3) hE)
          refine ⟨F, [], .ref p3, rfl, rfl, s4.at upd_same, by decide, hRR _ _ ⟨by rw [hd]; rfl, ?_⟩⟩
          have ek : L2.inV (.str t.kind) [.str "fill", .str "sweep"] = !t.isEd := by
            have q : L2.inV (.str t.kind) [.str "fill", .str "sweep"] = decide (t.kind ∈ (["fill", "sweep"] : List Str)) := inV_words (s := ["fill", "sweep"])
            rw [q]
            cases t with
            | ed e => exact decide_eq_false (show ¬ ("edition" : Str) ∈ (["fill", "sweep"] : List Str) by decide +kernel)
            | fill i => exact decide_eq_true (show ("fill" : Str) ∈ (["fill", "sweep"] : List Str) by decide +kernel)
            | sweep i => exact decide_eq_true (show ("sweep" : Str) ∈ (["fill", "sweep"] : List Str) by decide +kernel)
          have e0 : rowsA S st = [] ++ [(.begin, ⟨st.begun + 1, L2.inV (.str t.kind) [.str "fill", .str "sweep"], st.row, st.ents⟩)] := by
            unfold rowsA; rw [if_pos ⟨hd, cb⟩, getD_of ht, ek]; rfl
          rw [e0]
          exact fnd_add s1 hF s4 upd_same .nil r4
        · refine ifF (decide_eq_false (by omega)) (hRR _ _ ⟨by rw [hd]; rfl, s1, [], upd_same, ?_⟩)
          have e0 : rowsA S st = [] := by unfold rowsA; rw [if_neg (by simp [cb])]
          rw [e0]; exact .nil
    rintro σ' H1 ⟨rfl, s1, xs1, hF1, pf1⟩
    -- visit
    refine seq_cut (fun σ' H' => σ' = [some (.ref pa), some (.int l), some (.ref sa), some (.int st.begun), some (.bl st.due), some (rowV st.row), some (.ref ea), some (.int S.width), some fx, some (.ref c), some (.ref F), none, none, none, none] ∧ Same H H' ∧ FndT H' F (rowsA S st ++ rowsB S st)) (fun R hRR => ?_) ?_
    · refine ⟨_, rfl, st.due, rfl, ?_⟩
      cases hd : st.due with
      | false =>
        refine ifF rfl (hRR _ _ ⟨by rw [hd], s1, xs1, hF1, ?_⟩)
        have e0 : rowsB S st = [] := by unfold rowsB; rw [if_neg (by rw [hd]; simp)]
        rw [e0, List.append_nil]; exact pf1
      | true =>
        obtain ⟨t, n0, ht, hne⟩ := ok.due hd
        obtain ⟨u, hu, ru⟩ := pc.e_at2 ht
        refine ifT rfl ⟨_, rfl, .inl ⟨rfl, _, .of hF1⟩, by show 1 ≤ sizeLine; decide, fun p1 hp1 => ?_⟩
        have s2' := Same.new (o := .tup [.str "visit"]) hp1
        have s2 := s1.trans s2'
        refine ⟨_, rfl, _, rfl, _, rfl, _, rfl, _, _, rfl, rfl, c, ys, _, _, rfl, rfl, .of (s2.at hc), at_of (j := st.begun - 1) (by omega) hu, _, rfl, _, rfl,
          u, .ref ea, t, st.row, st.ents, rfl, mono_stp.go (Keep.of s2) ru, hne, by rw [ok.len]; exact okS.steps t (List.mem_of_getElem? ht), mono_ents.go (Keep.of s2) hE, asc, h60, fun H2 u2 s3 hu2 => ?_⟩
        refine ⟨by show 4 ≤ sizeLine; decide, fun p2 hp2 => ⟨by show 2 ≤ sizeLine; decide, fun p3 hp3 => ?_⟩⟩
        obtain ⟨s4, r4⟩ := row_mk (d := .visit) (s := ⟨st.begun, false, st.row, visitedM t st.row st.ents⟩) hp1 s3 hp2 hp3 hu2
        refine ⟨F, xs1, .ref p3, rfl, rfl, s4.at hF1, fnd_len pf1 (by have := len_rowsA S st; omega), hRR _ _ ⟨by rw [hd], ?_⟩⟩
        have e0 : rowsB S st = [(.visit, ⟨st.begun, false, st.row, visitedM t st.row st.ents⟩)] := by
          unfold rowsB; rw [if_pos hd, getD_of ht]
        rw [e0]
        exact fnd_add s1 hF s4 hF1 pf1 r4
    rintro σ' H2 ⟨rfl, s2, xs2, hF2, pf2⟩
    have lAB : (rowsA S st ++ rowsB S st).length ≤ 2 := by rw [List.length_append]; have := len_rowsA S st; have := len_rowsB S st; omega
    -- some
    refine ⟨_, rfl, _, rfl, _, rfl, .ref pa, S, st.begun, l, rfl, mono_parts.go (Keep.of s2) hP, okS, fun H3 u3 s3 ⟨nu, zs, e, hnu, pz⟩ => ?_⟩
    subst e
    dsimp only
    have s23 := s2.trans s3
    have wl := win_small okS.n12 st.begun l
    have lz := pz.e_len
    have hF3 := s3.at hF2
    have pf3 := mono_paired mono_row (Keep.of s3) pf2
    have nne : nu ≠ F := by
      rintro rfl
      rw [hnu] at hF3
      injection hF3 with q1; injection q1 with q1
      subst q1
      exact not_win pf3 pz win_len
    have wd : ∀ n ∈ win S st.begun l, (S.every.getD n []).length = S.first.length := fun n hn => by
      obtain ⟨ed, hed, led⟩ := every_at okS (win_lt hn)
      rw [getD_of hed]; exact led
    -- cut
    refine seq_cut (fun σ' H' => ∃ v1 v2 : Option V, σ' = [some (.ref pa), some (.int l), some (.ref sa), some (.int st.begun), some (.bl st.due), some (rowV st.row), some (.ref ea), some (.int S.width), some fx, some (.ref c), some (.ref F), some (.ref nu), v1, v2, none] ∧ Same H H' ∧ H' nu = some (.lst zs) ∧ Keep H3 H' ∧ FndT H' F (rowsA S st ++ rowsB S st ++ rowsC S l st)) (fun R hRR => ?_) ?_
    · refine ⟨_, rfl, _, rfl, ?_⟩
      cases hrow : st.row with
      | none =>
        refine ifF rfl ⟨by show 0 ≤ sizeLine; decide, fun p hp => ⟨p, rfl, ⟨_, .of upd_same⟩, ?_⟩⟩
        have e0 : rowsC S l st = [] := by unfold rowsC; rw [if_pos hrow]
        refine for_list (K := K) (a := p) (xs := []) (fun i σ' H' => σ' = [some (.ref pa), some (.int l), some (.ref sa), some (.int st.begun), some (.bl st.due), some (rowV st.row), some (.ref ea), some (.int S.width), some fx, some (.ref c), some (.ref F), some (.ref nu), none, none, none] ∧ H' = upd H3 p (.lst [])) ⟨by rw [hrow]; rfl, rfl⟩ (fun i σ' H' _ ⟨_, e⟩ => by rw [e]; exact .of upd_same) (fun i z σ' H' hz _ => by simp at hz) ?_
        rintro σ' H' ⟨rfl, rfl⟩
        have s4 : Same H3 (upd H3 p (.lst [])) := Same.new hp
        refine hRR _ _ ⟨none, none, by rw [hrow], s23.trans s4, s4.at hnu, Keep.of s4, xs2, s4.at hF3, ?_⟩
        rw [e0, List.append_nil]; exact mono_paired mono_row (Keep.of s4) pf3
      | some rv =>
        have e0 : rowsC S l st = (win S st.begun l).map (cutRow S st) := by unfold rowsC; rw [if_neg (by rw [hrow]; simp)]
        refine ifT rfl ⟨_, rfl, nu, rfl, ⟨_, .of hnu⟩, for_list (xs := zs)
          (fun i σ' H' => ∃ v1 v2 : Option V, σ' = [some (.ref pa), some (.int l), some (.ref sa), some (.int st.begun), some (.bl st.due), some (rowV st.row), some (.ref ea), some (.int S.width), some fx, some (.ref c), some (.ref F), some (.ref nu), v1, v2, none] ∧ Same H H' ∧ H' nu = some (.lst zs) ∧ Keep H3 H' ∧ FndT H' F (rowsA S st ++ rowsB S st ++ ((win S st.begun l).take i).map (cutRow S st)))
          ⟨none, none, by rw [hrow]; rfl, s23, hnu, Keep.refl _, xs2, hF3, by rw [List.take_zero, List.map_nil, List.append_nil]; exact pf3⟩ (fun i σ' H' _ ⟨_, _, _, _, hn, _⟩ => .of hn) ?_ ?_⟩
        · rintro i z σ' H4 hz ⟨v1, v2, rfl, s4, hn4, k4, xs4, hF4, pf4⟩
          obtain ⟨n, hn, rz⟩ := pz.e_at hz
          obtain ⟨ta, ev, rfl, hta, rev⟩ := mono_win.go k4 rz
          have hil := lt_of_at hn
          have led := wd n (List.mem_of_getElem? hn)
          refine ⟨ta, _, rfl, .of hta, rfl, _, _, rfl, _, _, rfl, rfl, ?_⟩
          refine ⟨_, rfl, .inl ⟨rfl, _, .of hF4⟩, _, rfl, by show 2 ≤ sizeLine; decide, fun p1 hp1 => ?_⟩
          have sp1 : Same H4 (upd H4 p1 (.tup [.str "cut", .int n])) := Same.new hp1
          refine ⟨_, rfl, _, rfl, _, rfl, _, rfl, _, rfl, ev, .ref ea, S.every.getD n [], st.ents, st.row, none, rfl, mono_words.go (Keep.of sp1) rev, mono_ents.go (Keep.of (s4.trans sp1)) hE, by rw [led, ok.len], asc, h60, fun H5 u s5 hu => ⟨by show 4 ≤ sizeLine; decide, fun p2 hp2 => ⟨by show 2 ≤ sizeLine; decide, fun p3 hp3 => ?_⟩⟩⟩
          obtain ⟨s6, r6⟩ := row_mk (d := .cut n) (s := ⟨st.begun, st.due, none, servedM (S.every.getD n []) st.row none st.ents⟩) hp1 s5 hp2 hp3 hu
          obtain ⟨s7, f7⟩ := fnd_add s4 hF s6 hF4 pf4 r6
          refine ⟨F, xs4, .ref p3, rfl, rfl, s6.at hF4, fnd_len pf4 ?_, _, _, rfl, s7, ?_, ?_, ?_⟩
          · rw [List.length_append, List.length_map, List.length_take]; omega
          · rw [upd_ne nne]; exact s6.at hn4
          · exact (k4.trans (Keep.of s6)).trans (Keep.lst (s6.at hF4))
          · rw [take_succ hn, List.map_append, ← List.append_assoc]
            exact f7
        · rintro σ' H4 ⟨v1, v2, rfl, s4, hn4, k4, f4⟩
          rw [lz, List.take_length, ← e0] at f4
          exact hRR _ _ ⟨v1, v2, by rw [hrow], s4, hn4, k4, f4⟩
    rintro σ' H4 ⟨v1, v2, rfl, s4, hn4, k4, xs4, hF4, pf4⟩
    have lABC : (rowsA S st ++ rowsB S st ++ rowsC S l st).length ≤ 15 := by rw [List.length_append]; have := len_rowsC okS.n12 l st; omega
    -- put
    refine seq_cut (fun σ' H' => ∃ v1 v2 v3 : Option V, σ' = [some (.ref pa), some (.int l), some (.ref sa), some (.int st.begun), some (.bl st.due), some (rowV st.row), some (.ref ea), some (.int S.width), some fx, some (.ref c), some (.ref F), some (.ref nu), v1, v2, v3] ∧ Same H H' ∧ FndT H' F (rowsIn S l st)) (fun R hRR => ?_) ?_
    · refine ⟨_, rfl, nu, rfl, ⟨_, .of hn4⟩, for_list (xs := zs)
          (fun i σ' H' => ∃ v1 v2 v3 : Option V, σ' = [some (.ref pa), some (.int l), some (.ref sa), some (.int st.begun), some (.bl st.due), some (rowV st.row), some (.ref ea), some (.int S.width), some fx, some (.ref c), some (.ref F), some (.ref nu), v1, v2, v3] ∧ Same H H' ∧ H' nu = some (.lst zs) ∧ Keep H3 H' ∧ FndT H' F (rowsA S st ++ rowsB S st ++ rowsC S l st ++ ((win S st.begun l).take i).flatMap (putsOf S st)))
          ⟨v1, v2, none, rfl, s4, hn4, k4, xs4, hF4, by rw [List.take_zero, List.flatMap_nil, List.append_nil]; exact pf4⟩ (fun i σ' H' _ ⟨_, _, _, _, _, hn, _⟩ => .of hn) ?_ ?_⟩
      · rintro i z σ' H5 hz ⟨v1, v2, v3, rfl, s5, hn5, k5, xs5, hF5, pf5⟩
        obtain ⟨n, hn, rz⟩ := pz.e_at hz
        obtain ⟨ta, ev, rfl, hta, rev⟩ := mono_win.go k5 rz
        have hil := lt_of_at hn
        have led := wd n (List.mem_of_getElem? hn)
        have lD : (((win S st.begun l).take i).flatMap (putsOf S st)).length ≤ 39 := by
          have h4 := len_flat (k := 3) (f := putsOf S st) (fun n => len_puts okS.w3 st n) ((win S st.begun l).take i)
          rw [List.length_take] at h4; omega
        have lI : (rowsA S st ++ rowsB S st ++ rowsC S l st ++ ((win S st.begun l).take i).flatMap (putsOf S st)).length ≤ 60 := by rw [List.length_append]; omega
        generalize hB : rowsA S st ++ rowsB S st ++ rowsC S l st ++ ((win S st.begun l).take i).flatMap (putsOf S st) = B at pf5 lI
        refine ⟨ta, _, rfl, .of hta, rfl, _, _, rfl, _, _, rfl, rfl, ?_⟩
        have lw := okS.w3
        -- the values
        refine ⟨_, rfl, _, rfl, by omega, by omega, ?_⟩
        rw [Int.toNat_natCast]
        refine fun D hD => lc_range (fun j H' => Same H5 H' ∧ H' D = some (.lst (((List.range j).filter (isNot st.row)).map fun m => V.int (m : Nat)))) ⟨Same.new hD, upd_same⟩ ?_ ?_
        · rintro j H6 hj ⟨s6, h6⟩
          rw [Int.zero_add]
          refine ⟨rfl, _, rfl, _, rfl, ?_, _, rfl, ?_⟩
          · cases st.row <;> rfl
          rw [range_filt, List.map_append]
          by_cases cn : isNot st.row j = true
          · rw [if_pos cn]
            refine ifT cn ⟨_, rfl, _, h6, ?_, s6.own hD, upd_same⟩
            have : ((List.range j).filter (isNot st.row)).length ≤ j := Nat.le_trans (List.length_filter_le _ _) (by rw [List.length_range]; omega)
            rw [List.length_map]; exact small1000 (by omega)
          · rw [if_neg cn]
            refine ifF (Bool.eq_false_iff.mpr cn) ⟨s6, ?_⟩
            rw [List.map_nil, List.append_nil]; exact h6
        rintro H6 ⟨s6, h6⟩
        have hF6 := s6.at hF5
        have dne : D ≠ F := fun e => by rw [e, hF5] at hD; cases hD
        have s56 := s5.trans s6
        generalize hvs : (List.range S.width).filter (isNot st.row) = vs at h6
        have lvs : vs.length ≤ 3 := by rw [← hvs]; exact Nat.le_trans (List.length_filter_le _ _) (by rw [List.length_range]; omega)
        refine ⟨D, rfl, ⟨_, .of h6⟩, for_list (xs := vs.map fun m => V.int (m : Nat)) (fun j σ' H' => ∃ v3 : Option V, σ' = [some (.ref pa), some (.int l), some (.ref sa), some (.int st.begun), some (.bl st.due), some (rowV st.row), some (.ref ea), some (.int S.width), some fx, some (.ref c), some (.ref F), some (.ref nu), some (.int n), some ev, v3] ∧ Same H H' ∧ H' nu = some (.lst zs) ∧ Keep H5 H' ∧ H' D = some (.lst (vs.map fun m => V.int (m : Nat))) ∧ FndT H' F (B ++ (vs.take j).map (putRow S st n)))
          ⟨v3, rfl, s56, s6.at hn5, Keep.of s6, h6, xs5, hF6, by rw [List.take_zero, List.map_nil, List.append_nil]; exact mono_paired mono_row (Keep.of s6) pf5⟩ (fun j σ' H' _ ⟨_, _, _, _, _, hd, _⟩ => .of hd) ?_ ?_⟩
        · rintro j z σ' H7 hz ⟨v3, rfl, s7, hn7, k7, hd7, xs7, hF7, pf7⟩
          obtain ⟨m, hm, rfl⟩ := map_at hz
          refine ⟨_, rfl, .inl ⟨rfl, _, .of hF7⟩, _, rfl, _, rfl, by show 3 ≤ sizeLine; decide, fun p1 hp1 => ?_⟩
          have sp1 : Same H7 (upd H7 p1 (.tup [.str "put", .int n, .int m])) := Same.new hp1
          refine ⟨_, rfl, _, rfl, _, rfl, _, rfl, _, rfl, _, rfl, _, rfl, ev, .ref ea, S.every.getD n [], st.ents, st.row, some (m : Int), rfl, mono_words.go (k7.trans (Keep.of sp1)) rev, mono_ents.go (Keep.of (s7.trans sp1)) hE, by rw [led, ok.len], asc, h60, fun H8 u s8 hu => ⟨by show 4 ≤ sizeLine; decide, fun p2 hp2 => ⟨by show 2 ≤ sizeLine; decide, fun p3 hp3 => ?_⟩⟩⟩
          obtain ⟨s9, r9⟩ := row_mk (d := .put n m) (s := ⟨st.begun, st.due, some (m : Int), servedM (S.every.getD n []) st.row (some (m : Int)) st.ents⟩) hp1 s8 hp2 hp3 hu
          obtain ⟨s10, f10⟩ := fnd_add s7 hF s9 hF7 pf7 r9
          refine ⟨F, xs7, .ref p3, rfl, rfl, s9.at hF7, fnd_len pf7 ?_, _, rfl, s10, ?_, ?_, ?_, ?_⟩
          · rw [List.length_append, List.length_map, List.length_take]; omega
          · rw [upd_ne nne]; exact s9.at hn7
          · exact (k7.trans (Keep.of s9)).trans (Keep.lst (s9.at hF7))
          · rw [upd_ne dne]; exact s9.at hd7
          · rw [take_succ hm, List.map_append, ← List.append_assoc]
            exact f10
        · rintro σ' H7 ⟨v3, rfl, s7, hn7, k7, hd7, f7⟩
          rw [List.length_map, List.take_length] at f7
          refine ⟨_, _, _, rfl, s7, hn7, k5.trans k7, ?_⟩
          rw [flat_succ hn, ← List.append_assoc, hB]
          unfold putsOf
          rw [hvs]
          exact f7
      · rintro σ' H5 ⟨v1, v2, v3, rfl, s5, hn5, k5, f5⟩
        rw [lz, List.take_length] at f5
        exact hRR _ _ ⟨_, _, _, rfl, s5, f5⟩
    · rintro σ' H5 ⟨v1, v2, v3, rfl, s5, xs5, hF5, pf5⟩
      exact ⟨_, rfl, k _ _ s5 ⟨F, xs5, rfl, hF5, pf5⟩⟩
end
end EL

set_option maxHeartbeats 4000000
namespace EL
open PySem L2 PyProof.Rows
/-! ### the sorted texts -/
abbrev three : List Str := ["left", "missed", "stray"]
theorem in_three {x : Str} (h : x ∈ three) : x = "left" ∨ x = "missed" ∨ x = "stray" := by simpa using h
theorem sort3 {L M T : Bool} {ys : List Str} (nd : ys.Nodup) (sub : ∀ x ∈ ys, x ∈ three) (hL : L = decide (("left" : Str) ∈ ys)) (hM : M = decide (("missed" : Str) ∈ ys)) (hT : T = decide (("stray" : Str) ∈ ys)) (so : sortedS ys = true) : ys = wish3 L M T := by
  have l3 : ys.length ≤ 3 := nodup_len (ss := three) nd sub
  subst hL hM hT
  match ys, nd, sub, so, l3 with
  | [], _, _, _, _ => decide +kernel
  | [a], nd, sub, so, _ =>
    rcases in_three (sub a (by simp)) with rfl | rfl | rfl
    all_goals decide +kernel
  | [a, b], nd, sub, so, _ =>
    rcases in_three (sub a (by simp)) with rfl | rfl | rfl <;> rcases in_three (sub b (by simp)) with rfl | rfl | rfl
    all_goals first | exact absurd nd (by decide +kernel) | exact absurd so (by decide +kernel) | decide +kernel
  | [a, b, c], nd, sub, so, _ =>
    rcases in_three (sub a (by simp)) with rfl | rfl | rfl <;> rcases in_three (sub b (by simp)) with rfl | rfl | rfl <;> rcases in_three (sub c (by simp)) with rfl | rfl | rfl
    all_goals first | exact absurd nd (by decide +kernel) | exact absurd so (by decide +kernel) | decide +kernel
  | a :: b :: c :: d :: r, _, _, _, l3 => exact absurd l3 (by simp)
section
variable {P : Program} {w : World} {K : PySem.W.Frag} {mg : Str → Option Value} {base : Heap} {C aW aX f : Addr} {fd : FuncData}
/-! ### _law_breaks -/
abbrev sLBreaks : Stmt := top 52
def spLBreaks : Sp := fun vs H Q _ => ∃ (x v : V) (S : Sch) (st : Sta) (l : Nat), vs = [x, .int l, v] ∧ PartsT H x S ∧ OkSch S ∧ StaT H v st ∧ OkSta S st ∧
  ∀ H' p, Same H H' → H' p = some (.lst ((breaksM S l st).map V.str)) → Q (.ref p) H'
theorem scLBreaks : FnScope ["parts", "loss", "state", "begun", "is_due", "row", "entries", "editions", "found", "place", "some", "words", "number", "edition", "one"] ["parts", "loss", "state"] (defScope sLBreaks) := ⟨rfl, rfl, rfl, by decide +kernel, rfl, by decide +kernel, by decide +kernel⟩
/-- what the list of findings holds -/
def Fnd5 (H : Hp) (F : Addr) (n : Nat) (L M T : Bool) : Prop := ∃ ss : List Str, H F = some (.lst (ss.map V.str)) ∧ ss.length ≤ n ∧ (∀ x ∈ ss, x ∈ three) ∧ decide (("left" : Str) ∈ ss) = L ∧ decide (("missed" : Str) ∈ ss) = M ∧ decide (("stray" : Str) ∈ ss) = T
theorem Fnd5.add {H : Hp} {F : Addr} {n : Nat} {L M T : Bool} {ss : List Str} (k : Str) (hk : k ∈ three) (hl : ss.length ≤ n) (h0 : ∀ x ∈ ss, x ∈ three) (h1 : decide (("left" : Str) ∈ ss) = L) (h2 : decide (("missed" : Str) ∈ ss) = M) (h3 : decide (("stray" : Str) ∈ ss) = T) :
    Fnd5 (upd H F (.lst (ss.map V.str ++ [.str k]))) F (n + 1) (L || decide (("left" : Str) = k)) (M || decide (("missed" : Str) = k)) (T || decide (("stray" : Str) = k)) := by
  have mem : ∀ x : Str, decide (x ∈ ss ++ [k]) = (decide (x ∈ ss) || decide (x = k)) := fun x => by
    rw [← Bool.decide_or]
    exact decide_eq_decide.mpr (by rw [List.mem_append, List.mem_singleton])
  refine ⟨ss ++ [k], by rw [List.map_append]; exact upd_same, by rw [List.length_append]; simp; omega, fun x hx => ?_, by rw [mem, h1], by rw [mem, h2], by rw [mem, h3]⟩
  rcases List.mem_append.mp hx with q | q
  · exact h0 x q
  · rw [List.mem_singleton.mp q]; exact hk
theorem ok_law_breaks (F : Fun K "_law_breaks" "_law_breaks" sLBreaks f fd) (T : Txt K mg C aW aX) (c_law_window : Ca P w K mg base CX0 1 "_law_window" ["parts", "begun", "loss"] spLWindow) :
    FnOk P w K mg base CX0 2 f fd ["parts", "loss", "state"] spLBreaks := by
  refine F.ok scLBreaks (fun vs H Q E h => ?_) (fun cdv A outer s H vs Q E hr h => ?_)
  · obtain ⟨_, _, _, _, _, rfl, _⟩ := h; rfl
  · obtain ⟨x, v, S, st, l, rfl, hP, okS, hV, ok, k⟩ := h
    have nd := scLBreaks.nd
    obtain ⟨pa, fx, y, rfl, ha, hx, ⟨c, ys, rfl, hc, pc⟩⟩ := id hP
    obtain ⟨sa, se, rfl, hs, hE⟩ := hV
    obtain ⟨ea, xs, rfl, hea, pe⟩ := id hE
    have ly := pc.e_len
    have lx := pe.e_len
    have lf := okS.first.len
    have h60 : st.ents.length ≤ 2 := by have := ok.len; rcases lf with q | q <;> omega
    have wl := win_small okS.n12 st.begun l
    refine ⟨_, (pss_cons (ps_asg (pv 2) (kTg K (n := 4) rfl rfl (pgs_cons (pg_name (i := 3) nd rfl (by first | exact Or.inl rfl | exact Or.inr rfl)) (pgs_cons (pg_name (i := 4) nd rfl (by first | exact Or.inl rfl | exact Or.inr rfl)) (pgs_cons (pg_name (i := 5) nd rfl (by first | exact Or.inl rfl | exact Or.inr rfl)) (pgs_cons (pg_name (i := 6) nd rfl (by first | exact Or.inl rfl | exact Or.inr rfl)) pgs_nil))))))
      (pss_cons (ps_setLc (i := 7) (own := [("number", 12), ("edition", 13)]) rfl nd rfl rfl (sw_true rfl rfl rfl (by decide +kernel)) (kPiL K rfl (pe_ca c_law_window (hr.mono (by decide)) (by rfl) pass0 (pa_cons (pv 0) (pa_cons (pv 3) (pa_cons (pv 1) pa_nil))))) (blkOk_by (by kernel_rfl)) (fun _ _ _ _ _ => (kTg K (n := 2) rfl rfl (pgs_cons (pg_name (i := 12) nd rfl (by first | exact Or.inl rfl | exact Or.inr rfl)) (pgs_cons (pg_name (i := 13) nd rfl (by first | exact Or.inl rfl | exact Or.inr rfl)) pgs_nil)))) (fun _ _ _ _ _ => pts_nil) (fun _ _ _ _ _ => (pv 13)))
      (pss_cons (ps_set (i := 8) nd rfl (by first | exact Or.inl rfl | exact Or.inr rfl) (pe_lst pa_nil))
      (pss_cons (ps_for PassesOwn.never rfl (pi_enumT (by rfl) T.n_enumerate (pa_cons (pv 6) pa_nil)) (kTg K (n := 2) rfl rfl (pgs_cons (pg_name (i := 9) nd rfl (by first | exact Or.inl rfl | exact Or.inr rfl)) (pgs_cons (pg_name (i := 10) nd rfl (by first | exact Or.inl rfl | exact Or.inr rfl)) pgs_nil))) (pss_cons (ps_setLc (i := 11) (own := [("edition", 13)]) rfl nd rfl rfl (sw_true rfl rfl rfl (by decide +kernel)) (kPiL K rfl (pv 7)) (blkOk_by (by kernel_rfl)) (fun _ _ _ _ _ => (pg_name (i := 13) nd rfl (by first | exact Or.inl rfl | exact Or.inr rfl))) (fun _ _ _ _ _ => pts_nil) (fun _ _ _ _ _ => (pe_ix (kIxT K) (pv 13) (pv 9) (fun _ _ => rfl))))
      (pss_cons (ps_if (PW.pt (pw_and (pt_cmpR op_eq (pe_bm PySem.F.plainAttrs_list PySem.F.slot_list_count PySem.F.type_list_count (mt_countS K) (pv 11) (pa_cons pe_str pa_nil)) (pe_callB (kLen K) (by rfl) T.n_len PySem.boot_len (pa_cons (pv 11) pa_nil)) (nomark _)) (pw_and (pt_cmpR op_eq (pv 3) (pe_callB (kLen K) (by rfl) T.n_len PySem.boot_len (pa_cons (pe_ix (kIxT K) (pv 0) pe_int (fun _ _ => rfl)) pa_nil)) (nomark _)) (pw_and (pt_not (pt_val (pv 4))) (pw_and1 (pt_cmpR (kNeD K rfl hr.units) (pv 10) (pe_tup pa_nil) (nomark _))))))) (pss_one (ps_expr (pe_bm PySem.F.plainAttrs_list PySem.F.slot_list_append PySem.F.type_list_append mt_append (pv 8) (pa_cons pe_str pa_nil)))) pss_nil)
      (pss_cons (ps_if (PW.pt (pw_and (pt_cmpR (kIn K) pe_str (pv 11) rfl) (pw_and (pt_cmp (pc_notN (pv 5))) (pw_and1 (pt_cmpR (kNotIn K) (pv 5) (pv 10) rfl))))) (pss_one (ps_expr (pe_bm PySem.F.plainAttrs_list PySem.F.slot_list_append PySem.F.type_list_append mt_append (pv 8) (pa_cons pe_str pa_nil)))) pss_nil)
      (pss_one (ps_if (PW.pt (pw_and (pt_cmpR (kIn K) pe_str (pv 11) rfl) (pw_and1 (pt_cmpR (kNeD K rfl hr.units) (pe_lc  (own := [("one", 14)]) rfl nd (kPiT K rfl (pv 10)) (blkOk_by (by kernel_rfl)) (fun _ _ _ _ _ => (pg_name (i := 14) nd rfl (by first | exact Or.inl rfl | exact Or.inr rfl))) (fun _ _ _ _ _ => (pts_one (pt_cmpR op_ne (pv 14) (pv 5) (nomark _)))) (fun _ _ _ _ _ => (pv 14))) (pe_lst pa_nil) (nomark _))))) (pss_one (ps_expr (pe_bm PySem.F.plainAttrs_list PySem.F.slot_list_append PySem.F.type_list_append mt_append (pv 8) (pa_cons pe_str pa_nil)))) pss_nil))))))
      (pss_one (ps_ret (pe_callB (cr_sortTx rfl) (by rfl) T.n_sorted (by decide +kernel) (pa_cons (pe_callTy (cr_setTx K rfl rfl) (by rfl) T.n_set (by decide +kernel) (pa_cons (pv 8) pa_nil)) pa_nil)))))))), ?_⟩
    refine ⟨_, rfl, sa, _, rfl, .of hs, rfl, _, _, rfl, _, _, rfl, _, _, rfl, _, _, rfl, rfl, ?_⟩
    -- editions
    refine ⟨_, rfl, _, rfl, _, rfl, .ref pa, S, st.begun, l, rfl, hP, okS, fun H1 u1 s1 ⟨nu, zs, e, hnu, pz⟩ => ?_⟩
    subst e
    have lz := pz.e_len
    refine ⟨nu, rfl, ⟨_, .of hnu⟩, fun D hD => lc_list (K := K) (a := nu) (xs := zs) (fun i H' => Same H1 H' ∧ ∃ qs, H' D = some (.lst qs) ∧ Paired (fun v n => WordsT H' v (S.every.getD n [])) qs ((win S st.begun l).take i)) ⟨Same.new hD, [], upd_same, .nil⟩ (fun i H' _ h => SqL.of (h.1.at hnu)) ?_ ?_⟩
    · rintro i z H' hi ⟨s2, qs, hq, pq⟩
      obtain ⟨n, hn, rz⟩ := pz.e_at hi
      obtain ⟨ta, ev, rfl, hta, rev⟩ := mono_win.go (Keep.of s2) rz
      have hil := lt_of_at hn
      have kk : Keep H' (upd H' D (.lst (qs ++ [ev]))) := Keep.lst hq
      refine ⟨ta, _, rfl, .of hta, rfl, _, _, rfl, _, _, rfl, rfl, rfl, yes (ifT rfl ⟨_, rfl, qs, hq, small1000 (by rw [pq.e_len, List.length_take]; omega), s2.own hD, qs ++ [ev], upd_same, ?_⟩)⟩
      rw [take_succ hn]
      exact (L2.Paired.mapP pq fun v n h => mono_words.go kk h).e_snoc (mono_words.go kk rev)
    rintro H2 ⟨s2, qs, hq, pq⟩
    rw [lz, List.take_length] at pq
    have lq := pq.e_len
    have s12 := s1.trans s2
    -- found
    refine ⟨by show 0 ≤ sizeLine; decide, fun F hF => ?_⟩
    have s3 : Same H2 (upd H2 F (.lst [])) := Same.new hF
    dsimp only
    refine seq_cut (fun σ' H' => ∃ v1 v2 v3 : Option V, σ' = [some (.ref pa), some (.int l), some (.ref sa), some (.int st.begun), some (.bl st.due), some (rowV st.row), some (.ref ea), some (.ref D), some (.ref F), v1, v2, v3, none, none, none] ∧ Same H2 H' ∧ Fnd5 H' F 6 (anyE (leftB S l st) st.ents st.ents.length) (anyE (missB S l st) st.ents st.ents.length) (anyE (strayB S l st) st.ents st.ents.length)) (fun R hRR => ?_) ?_
    · refine ⟨_, rfl, ea, xs, rfl, s3.at (s12.at hea), for_it (walk_enumT (xs := xs))
        (fun i σ' H' => ∃ v1 v2 v3 : Option V, σ' = [some (.ref pa), some (.int l), some (.ref sa), some (.int st.begun), some (.bl st.due), some (rowV st.row), some (.ref ea), some (.ref D), some (.ref F), v1, v2, v3, none, none, none] ∧ Same H2 H' ∧ Fnd5 H' F (3 * i) (anyE (leftB S l st) st.ents i) (anyE (missB S l st) st.ents i) (anyE (strayB S l st) st.ents i))
        ⟨none, none, none, rfl, s3, [], upd_same, Nat.le_refl _, (fun _ h => nomatch h), rfl, rfl, rfl⟩ (fun i σ' H' _ ⟨_, _, _, _, s4, _⟩ => s4.at (s12.at hea)) ?_ ?_⟩
      · rintro i y σ' H3 H4 hi ⟨v1, v2, v3, rfl, s4, ss, hk, lk, k0, k1, k2, k3⟩ ⟨T1, x1, x2, rfl, hT, rfl, e1, e2⟩
        cases e1
        obtain ⟨en, hen, ren⟩ := pe.e_at e2
        have oke := ok.ents en (List.mem_of_getElem? hen)
        have len3 := ent_len okS oke
        obtain ⟨b, rfl, hb⟩ := ren
        have hil : i < 2 := by have := lt_of_at hen; omega
        have s5 : Same H2 (upd H3 T1 (.tup [.int (i : Nat), .ref b])) := s4.trans (Same.new hT)
        have hF5 : (upd H3 T1 (.tup [.int (i : Nat), .ref b])) F = some (.lst (ss.map V.str)) := (Same.new hT).at hk
        refine ⟨T1, _, rfl, .of upd_same, rfl, _, _, rfl, _, _, rfl, rfl, ?_⟩
        generalize hH5 : upd H3 T1 (.tup [.int (i : Nat), .ref b]) = H5 at s5 hF5
        -- words
        refine ⟨_, rfl, D, rfl, ⟨_, .of (s5.at hq)⟩, fun D2 hD2 => lc_list (K := K) (a := D) (xs := qs) (fun j H' => Same H5 H' ∧ H' D2 = some (.lst ((((win S st.begun l).take j).map fun n => wordAt S n i).map V.str))) ⟨Same.new hD2, upd_same⟩ (fun j H' _ h => SqL.of (h.1.at (s5.at hq))) ?_ ?_⟩
        · rintro j z H6 hj ⟨s6, h6⟩
          obtain ⟨n, hn, rz⟩ := pq.e_at hj
          obtain ⟨ev, rfl, hev⟩ := rz
          obtain ⟨ed, hed, led⟩ := every_at okS (win_lt (List.mem_of_getElem? hn))
          rw [getD_of hed] at hev
          have hjl := lt_of_at hn
          obtain ⟨wd, hwd⟩ : ∃ wd, ed[i]? = some wd := ⟨ed[i]'(by have := lt_of_at hen; rw [led, ← ok.len]; omega), by simp⟩
          refine ⟨rfl, yes (ifT rfl ⟨_, rfl, _, rfl, ev, _, _, _, rfl, rfl, .of (s6.at (s5.at hev)), atI_nat (j := i) (v := .str wd) (by rw [List.getElem?_map, hwd]; rfl), _, h6, ?_, Same.own s6 hD2, ?_⟩)⟩
          · rw [List.length_map, List.length_map, List.length_take]; exact small1000 (by omega)
          · have ew : wordAt S n i = wd := by unfold wordAt; rw [getD_of hed, getD_of hwd]
            rw [take_succ hn, List.map_append, List.map_append, ← ew]
            exact upd_same
        rintro H6 ⟨s6, h6⟩
        rw [lq, List.take_length] at h6
        have hw6 : H6 D2 = some (.lst ((wordsAt S l st i).map V.str)) := h6
        have s56 := s5.trans s6
        have hF6 := s6.at hF5
        have s16 := s12.trans s56
        have lW : (wordsAt S l st i).length ≤ 13 := by unfold wordsAt; rw [List.length_map]; exact wl
        dsimp only
        -- left
        refine seq_cut (fun σ' H' => σ' = [some (.ref pa), some (.int l), some (.ref sa), some (.int st.begun), some (.bl st.due), some (rowV st.row), some (.ref ea), some (.ref D), some (.ref F), some (.int (i : Nat)), some (.ref b), some (.ref D2), none, none, none] ∧ Same H2 H' ∧ H' D2 = some (.lst ((wordsAt S l st i).map V.str)) ∧
            Fnd5 H' F (3 * i + 1) (anyE (leftB S l st) st.ents i || leftB S l st i en) (anyE (missB S l st) st.ents i) (anyE (strayB S l st) st.ents i)) (fun R hR => ?_) ?_
        · have no : leftB S l st i en = false → ∀ H', Same H6 H' → R [some (.ref pa), some (.int l), some (.ref sa), some (.int st.begun), some (.bl st.due), some (rowV st.row), some (.ref ea), some (.ref D), some (.ref F), some (.int (i : Nat)), some (.ref b), some (.ref D2), none, none, none] H' := fun e H' s7 => hR _ _ ⟨rfl, s56.trans s7, s7.at hw6, ss, s7.at hF6, by omega, k0, by rw [k1, e, Bool.or_false], k2, k3⟩
          have eg : decide (V.int (((wordsAt S l st i).count ("absent" : Str) : Nat) : Int) = V.int ((((wordsAt S l st i).map V.str).length : Nat) : Int)) = goneB S l st i := by
            unfold goneB
            rw [Bool.eq_iff_iff, decide_eq_true_eq, List.all_eq_true, List.length_map]
            constructor
            · intro h w hw
              have h' : (wordsAt S l st i).count ("absent" : Str) = (wordsAt S l st i).length := by have := V.int.inj h; omega
              exact decide_eq_true (List.count_eq_length.mp h' w hw).symm
            · intro h
              have h' : (wordsAt S l st i).count ("absent" : Str) = (wordsAt S l st i).length := List.count_eq_length.mpr fun w hw => (of_decide_eq_true (h w hw)).symm
              rw [h']
          refine ⟨_, rfl, .inl ⟨rfl, _, .of hw6⟩, D2, wordsAt S l st i, "absent", rfl, rfl, .of hw6, _, rfl, D2, _, rfl, .inl (.of hw6), rfl, _, rfl, ?_⟩
          rw [eg]
          by_cases cg : goneB S l st i = true
          · refine ifT cg ⟨_, rfl, _, rfl, pa, _, _, _, rfl, rfl, .of (s16.at ha), rfl, c, ys, rfl, .inr (.of (s16.at hc)), rfl, _, rfl, ?_⟩
            by_cases cb : st.begun = S.steps.length
            · refine ifT (decide_eq_true (by rw [ly, cb])) ⟨_, rfl, st.due, rfl, ?_⟩
              cases hd : st.due with
              | true =>
                have z := no (by unfold leftB; simp [hd]) _ (Same.refl _)
                rw [hd] at z
                exact ifF rfl (ifF rfl z)
              | false =>
                refine ifT rfl ⟨_, rfl, by show 0 ≤ sizeLine; decide, fun p7 hp7 => ?_⟩
                have s7 : Same H6 (upd H6 p7 (.tup [])) := Same.new hp7
                refine ⟨dInts en, .tuple [], dp_ints ⟨b, rfl, (s16.trans s7).at hb⟩, .tup (.of upd_same) .nil, (shp_ints _).go, (Shp.tup (n := 0) (ds := []) (by intro d h; cases h)).go, _, rfl, ?_⟩
                have eo : (!PyData.eqv (dInts en) (.tuple [])) = !decide (en = []) := by
                  unfold dInts
                  cases en <;> simp [PyData.eqv, PyData.eqvAll]
                rw [eo]
                by_cases co : en = []
                · have z := no (by unfold leftB; simp [co]) _ s7
                  rw [hd] at z
                  exact ifF (by rw [decide_eq_true co]; rfl) z
                · have e : leftB S l st i en = true := by unfold leftB; simp [co, hd, cg, cb]
                  have dne : D2 ≠ F := fun e => by rw [e, hF5] at hD2; cases hD2
                  refine ifT (by rw [decide_eq_false co]; rfl) ⟨_, rfl, .inl ⟨rfl, _, .of (s7.at hF6)⟩, F, _, _, rfl, rfl, s7.at hF6, by rw [List.length_map]; exact small1000 (by omega), hR _ _ ⟨by rw [hd]; rfl, (s56.trans s7).own hF, ?_, ?_⟩⟩
                  · rw [upd_ne dne]; exact s7.at hw6
                  · have z := Fnd5.add (H := upd H6 p7 (.tup [])) (F := F) "left" (by decide +kernel) lk k0 k1 k2 k3
                    rw [e, Bool.or_true]
                    rw [show decide (("left" : Str) = "left") = true by decide +kernel, show decide (("missed" : Str) = "left") = false by decide +kernel, show decide (("stray" : Str) = "left") = false by decide +kernel, Bool.or_true, Bool.or_false, Bool.or_false] at z
                    exact z
            · exact ifF (decide_eq_false (fun z => cb (by have := V.int.inj z; omega))) (ifF rfl (no (by unfold leftB; simp [cb]) _ (Same.refl _)))
          · exact ifF (Bool.eq_false_iff.mpr cg) (ifF rfl (no (by unfold leftB; simp [cg]) _ (Same.refl _)))
        rintro σ' H7 ⟨rfl, s7, hw7, ss7, hF7, l7, g0, g1, g2, g3⟩
        have s17 := s12.trans s7
        -- missed
        refine seq_cut (fun σ' H' => σ' = [some (.ref pa), some (.int l), some (.ref sa), some (.int st.begun), some (.bl st.due), some (rowV st.row), some (.ref ea), some (.ref D), some (.ref F), some (.int (i : Nat)), some (.ref b), some (.ref D2), none, none, none] ∧ Same H2 H' ∧ H' D2 = some (.lst ((wordsAt S l st i).map V.str)) ∧
            Fnd5 H' F (3 * i + 2) (anyE (leftB S l st) st.ents i || leftB S l st i en) (anyE (missB S l st) st.ents i || missB S l st i en) (anyE (strayB S l st) st.ents i)) (fun R hR => ?_) ?_
        · have no : missB S l st i en = false → R [some (.ref pa), some (.int l), some (.ref sa), some (.int st.begun), some (.bl st.due), some (rowV st.row), some (.ref ea), some (.ref D), some (.ref F), some (.int (i : Nat)), some (.ref b), some (.ref D2), none, none, none] H7 := fun e => hR _ _ ⟨rfl, s7, hw7, ss7, hF7, by omega, g0, g1, by rw [g2, e, Bool.or_false], g3⟩
          refine ⟨_, rfl, D2, _, rfl, .inl (.of hw7), rfl, flat_words _, _, rfl, ?_⟩
          by_cases cp : ("public" : Str) ∈ wordsAt S l st i
          · refine ifT (by show L2.inV _ _ = true; rw [inV_words, decide_eq_true cp]) ⟨_, rfl, _, rfl, ?_⟩
            cases hrow : st.row with
            | none =>
              have z := no (by unfold missB; rw [hrow]; simp)
              rw [hrow] at z
              exact ifF rfl (ifF rfl z)
            | some rv =>
              refine ifT rfl ⟨_, rfl, _, rfl, b, _, rfl, .inr (.of (s17.at hb)), rfl, flat_ints _, _, rfl, ?_⟩
              by_cases cr : rv ∈ en
              · have z := no (by unfold missB; rw [hrow]; simp [cr])
                rw [hrow] at z
                exact ifF (by show (!L2.inV (V.int rv) _) = false; rw [inV_ints, decide_eq_true cr]; rfl) z
              · have e : missB S l st i en = true := by unfold missB; rw [hrow]; simp [cr, cp]
                have dne : D2 ≠ F := fun e => by rw [e, hF5] at hD2; cases hD2
                refine ifT (by show (!L2.inV (V.int rv) _) = true; rw [inV_ints, decide_eq_false cr]; rfl) ⟨_, rfl, .inl ⟨rfl, _, .of hF7⟩, F, _, _, rfl, rfl, hF7, by rw [List.length_map]; exact small1000 (by omega), hR _ _ ⟨by rw [hrow], s7.own hF, ?_, ?_⟩⟩
                · rw [upd_ne dne]; exact hw7
                · have z := Fnd5.add (H := H7) (F := F) "missed" (by decide +kernel) l7 g0 g1 g2 g3
                  rw [e, Bool.or_true]
                  rw [show decide (("left" : Str) = "missed") = false by decide +kernel, show decide (("missed" : Str) = "missed") = true by decide +kernel, show decide (("stray" : Str) = "missed") = false by decide +kernel, Bool.or_true, Bool.or_false, Bool.or_false] at z
                  exact z
          · exact ifF (by show L2.inV _ _ = false; rw [inV_words, decide_eq_false cp]) (ifF rfl (no (by unfold missB; simp [cp])))
        rintro σ' H8 ⟨rfl, s8, hw8, ss8, hF8, l8, m0, m1, m2, m3⟩
        have s18 := s12.trans s8
        -- stray
        have fin : ∀ (H' : Hp) (ss' : List Str), Same H2 H' → H' F = some (.lst (ss'.map V.str)) → ss'.length ≤ 3 * i + 3 → (∀ x ∈ ss', x ∈ three) → decide (("left" : Str) ∈ ss') = (anyE (leftB S l st) st.ents i || leftB S l st i en) → decide (("missed" : Str) ∈ ss') = (anyE (missB S l st) st.ents i || missB S l st i en) →
            decide (("stray" : Str) ∈ ss') = (anyE (strayB S l st) st.ents i || strayB S l st i en) → 
            Same H2 H' ∧ Fnd5 H' F (3 * (i + 1)) (anyE (leftB S l st) st.ents (i + 1)) (anyE (missB S l st) st.ents (i + 1)) (anyE (strayB S l st) st.ents (i + 1)) := by
          intro H' ss' q1 q2 q3 q4 q5 q6 q7
          rw [anyE_succ hen, anyE_succ hen, anyE_succ hen]
          exact ⟨q1, ss', q2, by omega, q4, q5, q6, q7⟩
        refine ⟨_, rfl, D2, _, rfl, .inl (.of hw8), rfl, flat_words _, _, rfl, ?_⟩
        by_cases cp : ("public" : Str) ∈ wordsAt S l st i
        · refine ifT (by show L2.inV _ _ = true; rw [inV_words, decide_eq_true cp]) ?_
          have hb8 := s18.at hb
          refine ⟨_, rfl, b, rfl, ⟨_, .of hb8⟩, fun D3 hD3 => lc_tup (K := K) (a := b) (xs := en.map V.int) (fun j H' => Same H8 H' ∧ H' D3 = some (.lst ((outV (en.take j) st.row).map V.int)) ∧ (outV (en.take j) st.row).length ≤ j) ⟨Same.new hD3, upd_same, by simp [outV]⟩ (fun j H' _ h => SqT.of (h.1.at hb8)) ?_ ?_⟩
          · rintro j y H9 hj ⟨s9, h9, l9⟩
            obtain ⟨n, hn, rfl⟩ := map_at hj
            have hjl := lt_of_at hn
            refine ⟨rfl, _, rfl, _, rfl, ?_, _, rfl, ?_⟩
            · cases st.row <;> rfl
            · rw [take_succ hn, outV_snoc]
              by_cases co : V.int n = rowV st.row
              · rw [if_pos co]
                refine ifF (by rw [decide_eq_true co]; rfl) ⟨s9, ?_, ?_⟩
                · rw [List.append_nil]; exact h9
                · rw [List.append_nil]; omega
              · rw [if_neg co]
                refine ifT (by rw [decide_eq_false co]; rfl) ⟨_, rfl, _, h9, ?_, s9.own hD3, ?_, ?_⟩
                · rw [List.length_map]; exact small1000 (by omega)
                · rw [List.map_append]; exact upd_same
                · rw [List.length_append]; simp; omega
          rintro H9 ⟨s9, h9, l9⟩
          rw [List.length_map, List.take_length] at h9
          refine ⟨by show 0 ≤ sizeLine; decide, fun p10 hp10 => ?_⟩
          have s10 : Same H8 (upd H9 p10 (.lst [])) := s9.trans (Same.new hp10)
          refine ⟨.list ((outV en st.row).map PyData.int), .list [], .lst (.of ((Same.new hp10).at h9)) dp_intsL, .lst (.of upd_same) .nil, (Shp.lst (n := 0) (fun d hd => by obtain ⟨i, _, rfl⟩ := List.mem_map.mp hd; exact .int)).go, (Shp.lst (n := 0) (ds := []) (by intro d h; cases h)).go, _, rfl, ?_⟩
          have eo : (!PyData.eqv (.list ((outV en st.row).map PyData.int)) (.list [])) = !decide (outV en st.row = []) := by
            cases outV en st.row <;> simp [PyData.eqv, PyData.eqvAll]
          rw [eo]
          by_cases co : outV en st.row = []
          · refine ifF (by rw [decide_eq_true co]; rfl) ⟨_, _, _, rfl, fin _ ss8 (s8.trans s10) (s10.at hF8) (by omega) m0 m1 m2 ?_⟩
            rw [m3, show strayB S l st i en = false by unfold strayB; simp [co], Bool.or_false]
          · have e : strayB S l st i en = true := by unfold strayB; simp [co, cp]
            obtain ⟨ss9, z1, z2, z3, z4, z5, z6⟩ := Fnd5.add (H := upd H9 p10 (.lst [])) (F := F) "stray" (by decide +kernel) l8 m0 m1 m2 m3
            refine ifT (by rw [decide_eq_false co]; rfl) ⟨_, rfl, .inl ⟨rfl, _, .of (s10.at hF8)⟩, F, _, _, rfl, rfl, s10.at hF8, by rw [List.length_map]; exact small1000 (by omega), _, _, _, rfl, fin _ ss9 ((s8.trans s10).own hF) z1 (by omega) z3 ?_ ?_ ?_⟩
            · rw [z4, show decide (("left" : Str) = "stray") = false by decide +kernel, Bool.or_false]
            · rw [z5, show decide (("missed" : Str) = "stray") = false by decide +kernel, Bool.or_false]
            · rw [z6, show decide (("stray" : Str) = "stray") = true by decide +kernel, e, Bool.or_true]
        · refine ifF (by show L2.inV _ _ = false; rw [inV_words, decide_eq_false cp]) (ifF rfl ⟨_, _, _, rfl, fin _ ss8 s8 hF8 (by omega) m0 m1 m2 ?_⟩)
          rw [m3, show strayB S l st i en = false by unfold strayB; simp [cp], Bool.or_false]
      · rintro σ' H3 ⟨v1, v2, v3, rfl, s4, f4⟩
        rw [lx] at f4
        obtain ⟨ss, g1, g2, g3⟩ := f4
        exact hRR _ _ ⟨_, _, _, rfl, s4, ss, g1, by omega, g3⟩
    rintro σ' H3 ⟨v1, v2, v3, rfl, s4, ss, hk, lk, k0, k1, k2, k3⟩
    refine ⟨_, rfl, F, ss, rfl, .of hk, by omega, fun p hp => ⟨p, ss, rfl, upd_same, by omega, fun ys q nd2 mem so hq => ?_⟩⟩
    have e : ys = breaksM S l st := sort3 nd2 (fun x hx => k0 x ((mem x).mp hx)) (by rw [← k1]; exact decide_eq_decide.mpr (mem _).symm) (by rw [← k2]; exact decide_eq_decide.mpr (mem _).symm) (by rw [← k3]; exact decide_eq_decide.mpr (mem _).symm) so
    subst e
    exact k _ _ ((s12.trans s4).trans ((Same.new hp).trans (Same.new hq))) upd_same
end
end EL

set_option maxHeartbeats 4000000
namespace EL
open PySem L2
def natsI (l : List Nat) : List Int := l.map fun n => ((n : Nat) : Int)
theorem asc_nats : ∀ {l : List Nat}, l.Pairwise (· < ·) → Asc (natsI l)
  | [], _ => .nil
  | x :: r, h => by
    obtain ⟨h1, h2⟩ := List.pairwise_cons.mp h
    refine List.pairwise_cons.mpr ⟨fun y hy => ?_, asc_nats h2⟩
    obtain ⟨z, hz, rfl⟩ := List.mem_map.mp hy
    have := h1 z hz
    show (x : Int) < (z : Int)
    omega
section
variable {P : Program} {w : World} {K : PySem.W.Frag} {mg : Str → Option Value} {base : Heap} {C aW aX f : Addr} {fd : FuncData}
/-! ### _law_any_state -/
abbrev sLAny : Stmt := top 53
def spLAny (K : PySem.W.Frag) : Sp := fun vs H Q _ => ∃ (x y : V) (at_ : Nat) (S : Sch), vs = [x, .int at_, y] ∧ ScrT K H x ∧ PartsT H y S ∧ OkSch S ∧ ∀ H' u st, Same H H' → StaT H' u st → OkSta S st → Q u H'
theorem scLAny : FnScope ["script", "at", "parts", "one", "two", "begun", "is_due", "entries", "place", "bits", "rows", "value", "bit"] ["script", "at", "parts"] (defScope sLAny) := ⟨rfl, rfl, rfl, by decide +kernel, rfl, by decide +kernel, by decide +kernel⟩
theorem ok_law_any (F : Fun K "_law_any_state" "_law_any_state" sLAny f fd) (T : Txt K mg C aW aX) (c_law_number : Ca P w K mg base CX0 1 "_law_number" ["script", "index"] (spNumber K)) :
    FnOk P w K mg base CX0 2 f fd ["script", "at", "parts"] (spLAny K) := by
  refine F.ok scLAny (fun vs H Q E h => ?_) (fun cdv A outer s H vs Q E hr h => ?_)
  · obtain ⟨_, _, _, _, rfl, _⟩ := h; rfl
  · obtain ⟨x, y, at_, S, rfl, hX, hP, okS, k⟩ := h
    have nd := scLAny.nd
    obtain ⟨pa, fx, sy, rfl, ha, ⟨fa, rfl, hfa⟩, ⟨c, ys, rfl, hc, pc⟩⟩ := id hP
    have ly := pc.e_len
    have lf := okS.first.len
    have lw := okS.w3
    have h12 := okS.n12
    refine ⟨_, (pss_cons (ps_asg (pe_tup (pa_cons (pe_callTy call_int1 (by rfl) T.n_int PySem.Pv.boot_int (pa_cons (pe_ca c_law_number (hr.mono (by decide)) (by rfl) pass0 (pa_cons (pv 0) (pa_cons (pv 1) pa_nil))) pa_nil)) (pa_cons (pe_callTy call_int1 (by rfl) T.n_int PySem.Pv.boot_int (pa_cons (pe_ca c_law_number (hr.mono (by decide)) (by rfl) pass0 (pa_cons (pv 0) (pa_cons (pe_op op_add (pv 1) pe_int) pa_nil))) pa_nil)) pa_nil))) (kTg K (n := 2) rfl rfl (pgs_cons (pg_name (i := 3) nd rfl (by first | exact Or.inl rfl | exact Or.inr rfl)) (pgs_cons (pg_name (i := 4) nd rfl (by first | exact Or.inl rfl | exact Or.inr rfl)) pgs_nil))))
      (pss_cons (ps_set (i := 5) nd rfl (by first | exact Or.inl rfl | exact Or.inr rfl) (pe_op op_mod (pe_callTy call_int1 (by rfl) T.n_int PySem.Pv.boot_int (pa_cons (pv 3) pa_nil)) (pe_op op_add (pe_callB (kLen K) (by rfl) T.n_len PySem.boot_len (pa_cons (pe_ix (kIxT K) (pv 2) pe_int (fun _ _ => rfl)) pa_nil)) pe_int)))
      (pss_cons (ps_set (i := 6) nd rfl (by first | exact Or.inl rfl | exact Or.inr rfl) (pe_and (pe_cmpR op_gt (pv 5) pe_int (nomark _)) (pe_and (pe_cmpR op_ne (pe_ix (kIxT K) (pe_ix (kIxT K) (pe_ix (kIxT K) (pv 2) pe_int (fun _ _ => rfl)) (pe_op op_sub (pv 5) pe_int) (fun _ _ => rfl)) pe_int (fun _ _ => rfl)) pe_str (nomark _)) (pe_one (pe_cmpR op_eq (pe_op op_mod (pe_callTy call_int1 (by rfl) T.n_int PySem.Pv.boot_int (pa_cons (pe_op op_fdiv (pv 3) pe_int) pa_nil)) pe_int) pe_int (nomark _))))))
      (pss_cons (ps_set (i := 7) nd rfl (by first | exact Or.inl rfl | exact Or.inr rfl) (pe_lst pa_nil))
      (pss_cons (ps_for PassesOwn.never rfl (pi_range1 (by rfl) T.n_range (pa_cons (pe_callB (kLen K) (by rfl) T.n_len PySem.boot_len (pa_cons (pe_ix (kIxT K) (pv 2) pe_int (fun _ _ => rfl)) pa_nil)) pa_nil)) (pg_name (i := 8) nd rfl (by first | exact Or.inl rfl | exact Or.inr rfl)) (pss_cons (ps_setLc (i := 9) (own := [("value", 11)]) rfl nd rfl rfl (sw_true rfl rfl rfl (by decide +kernel)) (pi_range1 (by rfl) T.n_range (pa_cons (pe_ix (kIxT K) (pv 2) pe_int (fun _ _ => rfl)) pa_nil)) (blkOk_by (by kernel_rfl)) (fun _ _ _ _ _ => (pg_name (i := 11) nd rfl (by first | exact Or.inl rfl | exact Or.inr rfl))) (fun _ _ _ _ _ => pts_nil) (fun _ _ _ _ _ => (pe_op op_mod (pe_callTy call_int1 (by rfl) T.n_int PySem.Pv.boot_int (pa_cons (pe_op op_fdiv (pv 4) (pe_ix (kIxT K) (pe_tup (pa_cons pe_int (pa_cons pe_int (pa_cons pe_int (pa_cons pe_int (pa_cons pe_int (pa_cons pe_int pa_nil))))))) (pe_op op_add (pe_op op_mul pe_int (pv 8)) (pv 11)) (fun _ _ => rfl))) pa_nil)) pe_int)))
      (pss_one (ps_expr (pe_bm PySem.F.plainAttrs_list PySem.F.slot_list_append PySem.F.type_list_append mt_append (pv 7) (pa_cons (pe_tupleOf (by rfl) T.n_tuple (pe_lc  (own := [("value", 11), ("bit", 12)]) rfl nd (pi_enum (by rfl) T.n_enumerate (pa_cons (pv 9) pa_nil)) (blkOk_by (by kernel_rfl)) (fun _ _ _ _ _ => (kTg K (n := 2) rfl rfl (pgs_cons (pg_name (i := 11) nd rfl (by first | exact Or.inl rfl | exact Or.inr rfl)) (pgs_cons (pg_name (i := 12) nd rfl (by first | exact Or.inl rfl | exact Or.inr rfl)) pgs_nil)))) (fun _ _ _ _ _ => (pts_one (pt_cmpR op_eq (pv 12) pe_int (nomark _)))) (fun _ _ _ _ _ => (pv 11)))) pa_nil))))))
      (pss_cons (ps_set (i := 10) nd rfl (by first | exact Or.inl rfl | exact Or.inr rfl) (pe_op op_cat (pe_lst (pa_cons pe_non pa_nil)) (pe_listRg rfl (by rfl) T.n_list (prg_1 (by rfl) T.n_range (pe_ix (kIxT K) (pv 2) pe_int (fun _ _ => rfl))))))
      (pss_one (ps_ret (pe_tup (pa_cons (pv 5) (pa_cons (pv 6) (pa_cons (pe_ix (kIxL K) (pv 10) (pe_op op_mod (pe_callTy call_int1 (by rfl) T.n_int PySem.Pv.boot_int (pa_cons (pe_op op_fdiv (pv 4) pe_int) pa_nil)) (pe_callB (kLen K) (by rfl) T.n_len PySem.boot_len (pa_cons (pv 10) pa_nil))) (fun _ _ => rfl)) (pa_cons (pe_tupleOf (by rfl) T.n_tuple (pv 7)) pa_nil))))))))))))), ?_⟩
    refine ⟨_, rfl, _, rfl, x, at_, rfl, hX, fun H1 one s1 => .inl ⟨_, rfl, _, rfl, _, rfl, _, _, rfl, rfl, x, at_ + 1, rfl, scr_same s1 hX, fun H2 two s2 => .inl ⟨_, rfl, by show 2 ≤ sizeLine; decide, fun tp htp => ⟨tp, _, rfl, .of upd_same, rfl, _, _, rfl, _, _, rfl, rfl, ?_⟩⟩⟩⟩
    have s3 : Same H (upd H2 tp (.tup [.int one, .int two])) := (s1.trans s2).trans (Same.new htp)
    generalize hH3 : upd H2 tp (.tup [.int one, .int two]) = H3 at s3
    -- begun
    refine ⟨_, rfl, .inl ⟨_, rfl, _, rfl, pa, _, _, _, rfl, rfl, .of (s3.at ha), rfl, c, ys, rfl, .inr (.of (s3.at hc)), _, _, rfl, rfl, _, _, rfl, rfl, (by show (0 : Int) < ((ys.length : Nat) : Int) + 1; omega), ?_⟩⟩
    obtain ⟨b, hb⟩ : ∃ b : Nat, one % (((ys.length : Nat) : Int) + 1) = b := ⟨(one % (((ys.length : Nat) : Int) + 1)).toNat, by have := Int.emod_nonneg one (b := ((ys.length : Nat) : Int) + 1) (by omega); omega⟩
    have hbl : b ≤ S.steps.length := by have := Int.emod_lt_of_pos one (b := ((ys.length : Nat) : Int) + 1) (by omega); omega
    dsimp only
    -- is_due
    refine seq_cut (fun σ' H' => ∃ (bg : Int) (d : Bool), bg = b ∧ σ' = [some x, some (.int at_), some (.ref pa), some (.int one), some (.int two), some (.int bg), some (.bl d), none, none, none, none, none, none] ∧ H3 = H' ∧ (d = true → ∃ t, b ≠ 0 ∧ S.steps[b - 1]? = some t ∧ t.isEd = false)) (fun R hR => ?_) ?_
    · refine ⟨_, rfl, _, _, rfl, rfl, _, rfl, ?_⟩
      by_cases c0 : b = 0
      · refine ifF (decide_eq_false (by omega)) (hR _ _ ⟨_, _, hb, rfl, rfl, fun h => ?_⟩)
        cases h
      · refine ifT (decide_eq_true (by omega)) ?_
        obtain ⟨t, ht⟩ : ∃ t, S.steps[b - 1]? = some t := ⟨S.steps[b - 1]'(by omega), by simp⟩
        obtain ⟨u, hu, ru⟩ := pc.e_at2 ht
        obtain ⟨g, u2, rfl, hg, _⟩ := stp_at ru
        refine ⟨_, rfl, pa, _, _, _, rfl, rfl, .of (s3.at ha), rfl, _, rfl, _, _, rfl, rfl, c, ys, _, _, rfl, rfl, .of (s3.at hc), at_of (j := b - 1) (by omega) hu, g, _, _, _, rfl, rfl, .of (s3.at hg), at0, rfl, _, rfl, ?_⟩
        rw [not_ed_kind]
        by_cases ce : t.isEd = true
        · refine ifF (by rw [ce]; rfl) (hR _ _ ⟨_, _, hb, rfl, rfl, fun h => ?_⟩)
          cases h
        · refine ifT (by rw [Bool.eq_false_iff.mpr ce]; rfl) ⟨_, rfl, _, _, rfl, rfl, ⟨by decide, by decide⟩, .inl ⟨_, rfl, _, _, rfl, rfl, (by show (0 : Int) < _; decide), rfl, hR _ _ ⟨_, _, hb, rfl, rfl, fun _ => ⟨t, c0, ht, Bool.eq_false_iff.mpr ce⟩⟩⟩⟩
    rintro σ' H4 ⟨bg, d, rfl, rfl, rfl, hd⟩
    -- entries
    refine ⟨by show 0 ≤ sizeLine; decide, fun F hF3 => ?_⟩
    have hF : H F = none := same_none s3 hF3
    have s4 : Same H (upd H3 F (.lst [])) := s3.trans (Same.new hF3)
    dsimp only
    refine seq_cut (fun σ' H' => ∃ (v8 v9 : Option V) (qs : List V) (es : List (List Int)), σ' = [some x, some (.int at_), some (.ref pa), some (.int one), some (.int two), some (.int b), some (.bl d), some (.ref F), v8, v9, none, none, none] ∧ Same H H' ∧ H' F = some (.lst qs) ∧ Paired (IntsT H') qs es ∧ es.length = S.first.length ∧ ∀ e ∈ es, OkEnt S e) (fun R hR => ?_) ?_
    · refine ⟨_, rfl, pa, _, _, _, rfl, rfl, .of (s4.at ha), rfl, fa, _, rfl, .inr (.of (s4.at hfa)), _, rfl, by rw [List.length_map]; rcases lf with q | q <;> omega, by rw [List.length_map]; rcases lf with q | q <;> omega, ?_⟩
      rw [Int.toNat_natCast, List.length_map]
      refine for_range (fun i σ' H' => ∃ (v8 v9 : Option V) (qs : List V) (es : List (List Int)), σ' = [some x, some (.int at_), some (.ref pa), some (.int one), some (.int two), some (.int b), some (.bl d), some (.ref F), v8, v9, none, none, none] ∧ Same H H' ∧ H' F = some (.lst qs) ∧ Paired (IntsT H') qs es ∧ es.length = i ∧ ∀ e ∈ es, OkEnt S e)
        ⟨none, none, [], [], rfl, s4, upd_same, .nil, rfl, fun _ h => nomatch h⟩ ?_ ?_
      · rintro i σ' H5 hi ⟨v8, v9, qs, es, rfl, s5, hq, pq, le, oe⟩
        rw [Int.zero_add]
        have hi2 : i < 2 := by rcases lf with q | q <;> omega
        -- bits
        refine ⟨_, rfl, pa, _, _, _, rfl, rfl, .of (s5.at ha), rfl, _, rfl, by omega, by omega, ?_⟩
        rw [Int.toNat_natCast]
        refine fun D hD => lc_range (fun j H' => Same H5 H' ∧ ∃ bs : List Int, H' D = some (.lst (bs.map V.int)) ∧ bs.length = j) ⟨Same.new hD, [], upd_same, rfl⟩ ?_ ?_
        · rintro j H6 hj ⟨s6, bs, h6, lb⟩
          rw [Int.zero_add]
          have hd2 : ∃ d : Int, (0 < d ∧ d < 1073741824) ∧ atI [V.int 1, V.int 2, V.int 4, V.int 8, V.int 16, V.int 32] (3 * (i : Int) + (j : Int)) = some (.int d) := by
            have hj3 : j < 3 := by omega
            rcases (show i = 0 ∨ i = 1 by omega) with rfl | rfl <;> rcases (show j = 0 ∨ j = 1 ∨ j = 2 by omega) with rfl | rfl | rfl
            · exact ⟨1, by decide, rfl⟩
            · exact ⟨2, by decide, rfl⟩
            · exact ⟨4, by decide, rfl⟩
            · exact ⟨8, by decide, rfl⟩
            · exact ⟨16, by decide, rfl⟩
            · exact ⟨32, by decide, rfl⟩
          obtain ⟨d2, db, hd2⟩ := hd2
          refine ⟨rfl, yes (ifT rfl ⟨_, rfl, by show 6 ≤ sizeLine; decide, fun p hp => ⟨_, rfl, _, _, rfl, rfl, .inl ⟨by decide, by decide⟩, _, rfl, _, _, rfl, rfl, p, _, _, _, rfl, rfl, .of upd_same, hd2, _, _, rfl, rfl, db, .inl ⟨_, rfl, _, _, rfl, rfl, (by show (0 : Int) < _; decide), _, (Same.new hp).at h6, ?_, (s6.trans (Same.new hp)).own hD, bs ++ [two / d2 % 2], ?_, ?_⟩⟩⟩)⟩
          · rw [List.length_map]; exact small1000 (by omega)
          · rw [List.map_append]; exact upd_same
          · rw [List.length_append, lb]; rfl
        rintro H6 ⟨s6, bs, h6, lb⟩
        have hq6 := s6.at hq
        have s56 := s5.trans s6
        dsimp only
        -- the entry
        refine ⟨_, rfl, .inl ⟨rfl, _, .of hq6⟩, _, rfl, D, _, rfl, .of h6, fun D2 hD2 => lc_it (walk_enum (xs := bs.map V.int)) (fun j H' => Same H6 H' ∧ H' D2 = some (.lst ((natsI ((List.range j).filter fun n => decide (bs.getD n 0 = 0))).map V.int))) ⟨Same.new hD2, upd_same⟩ (fun j H' _ h => SqL.of (h.1.at h6)) ?_ ?_⟩
        · rintro j z H7 H8 hj ⟨s7, h7⟩ ⟨T1, x1, x2, rfl, hT, rfl, e1, e2⟩
          cases e1
          obtain ⟨bt, hbt, rfl⟩ := map_at e2
          have hT7 := (Same.new (o := .tup [.int (j : Nat), .int bt]) hT).at h7
          refine ⟨T1, _, rfl, .of upd_same, rfl, _, _, rfl, _, _, rfl, rfl, rfl, _, rfl, rfl, _, rfl, ?_⟩
          have eb : decide (V.int bt = V.int 0) = decide (bs.getD j 0 = 0) := by
            rw [getD_of hbt]
            exact decide_eq_decide.mpr ⟨fun h => V.int.inj h, fun h => by rw [h]⟩
          rw [eb, range_filt]
          unfold natsI
          rw [List.map_append, List.map_append]
          have hjl := lt_of_at hbt
          by_cases cz : bs.getD j 0 = 0
          · rw [if_pos (decide_eq_true cz)]
            refine ifT (decide_eq_true cz) ⟨_, rfl, _, hT7, ?_, (s7.trans (Same.new hT)).own hD2, upd_same⟩
            have : ((List.range j).filter fun n => decide (bs.getD n 0 = 0)).length ≤ j := Nat.le_trans (List.length_filter_le _ _) (by rw [List.length_range]; omega)
            unfold natsI
            rw [List.length_map, List.length_map]; exact small1000 (by omega)
          · rw [if_neg (by rw [decide_eq_false cz]; decide)]
            refine ifF (decide_eq_false cz) ⟨s7.trans (Same.new hT), ?_⟩
            rw [List.map_nil, List.map_nil, List.append_nil]; exact hT7
        rintro H7 ⟨s7, h7⟩
        rw [List.length_map, lb] at h7
        refine .inl ⟨D2, _, rfl, .of h7, fun p hp => ?_⟩
        generalize hns : (List.range S.width).filter (fun n => decide (bs.getD n 0 = 0)) = ns at h7
        have s8 : Same H6 (upd H7 p (.tup ((natsI ns).map V.int))) := s7.trans (Same.new hp)
        have lq : qs.length ≤ 2 := by rw [pq.e_len]; omega
        have ent : OkEnt S (natsI ns) := by
          have mem : ∀ z ∈ natsI ns, ∃ n : Nat, n < S.width ∧ (n : Int) = z := fun z hz => by
            obtain ⟨n, hn, rfl⟩ := List.mem_map.mp hz
            rw [← hns] at hn
            exact ⟨n, List.mem_range.mp (List.mem_filter.mp hn).1, rfl⟩
          refine ⟨asc_nats ?_, fun z hz => ?_, fun z hz => ?_⟩
          · rw [← hns]; exact List.Pairwise.filter _ List.pairwise_lt_range
          · obtain ⟨n, _, rfl⟩ := mem z hz; omega
          · obtain ⟨n, h, rfl⟩ := mem z hz; omega
        have kk : Keep (upd H7 p (.tup ((natsI ns).map V.int))) (upd (upd H7 p (.tup ((natsI ns).map V.int))) F (.lst (qs ++ [.ref p]))) := Keep.lst (s8.at hq6)
        refine ⟨F, qs, .ref p, rfl, rfl, s8.at hq6, small1000 (by omega), _, _, qs ++ [.ref p], es ++ [natsI ns], rfl, (s56.trans s8).own hF, upd_same, ?_, by rw [List.length_append, le]; rfl, ?_⟩
        · exact (mono_paired mono_ints ((Keep.of (s6.trans s8)).trans kk) pq).e_snoc ⟨p, rfl, kk.t _ _ upd_same⟩
        · intro e he
          rcases List.mem_append.mp he with z | z
          · exact oe e z
          · rw [List.mem_singleton.mp z]; exact ent
      · rintro σ' H5 ⟨v8, v9, qs, es, rfl, s5, hq, pq, le, oe⟩
        exact hR _ _ ⟨_, _, qs, es, rfl, s5, hq, pq, le, oe⟩
    rintro σ' H5 ⟨v8, v9, qs, es, rfl, s5, hq, pq, le, oe⟩
    -- rows
    refine ⟨by show 1 ≤ sizeLine; decide, fun l1 hl1 => ?_⟩
    have s6 : Same H (upd H5 l1 (.lst [.non])) := s5.trans (Same.new hl1)
    refine ⟨_, rfl, pa, _, _, _, rfl, rfl, .of (s6.at ha), rfl, _, rfl, ⟨by decide, by decide, by omega, by omega, by omega⟩, fun l2 hl2 => ⟨l1, l2, _, _, rfl, rfl, (Same.new hl2).at upd_same, upd_same, ?_, fun l3 hl3 => ?_⟩⟩
    · rw [rgV_eq, List.length_map, List.length_range]; exact Nat.le_of_lt (small1000 (by show 1 + _ ≤ 1000; omega))
    have s7 : Same H (upd (upd (upd H5 l1 (.lst [.non])) l2 (.lst (rgV 0 (S.width : Nat)))) l3 (.lst ([.non] ++ rgV 0 (S.width : Nat)))) := (s6.trans (Same.new hl2)).trans (Same.new hl3)
    have s57 : Same H5 (upd (upd (upd H5 l1 (.lst [.non])) l2 (.lst (rgV 0 (S.width : Nat)))) l3 (.lst ([.non] ++ rgV 0 (S.width : Nat)))) := ((Same.new hl1).trans (Same.new hl2)).trans (Same.new hl3)
    have h3 : (upd (upd (upd H5 l1 (.lst [.non])) l2 (.lst (rgV 0 (S.width : Nat)))) l3 (.lst ([.non] ++ rgV 0 (S.width : Nat)))) l3 = some (.lst ([.non] ++ rgV 0 (S.width : Nat))) := upd_same
    generalize hH7 : upd (upd (upd H5 l1 (.lst [.non])) l2 (.lst (rgV 0 (S.width : Nat)))) l3 (.lst ([.non] ++ rgV 0 (S.width : Nat))) = H7 at s7 s57 h3
    rw [rgV_eq] at h3
    have l4 : (([.non] : List V) ++ (List.range S.width).map fun n => V.int (n : Nat)).length = S.width + 1 := by rw [List.length_append, List.length_map, List.length_range]; exact Nat.add_comm ..
    have z0 : 0 ≤ two / 1000 % ((S.width : Int) + 1) := Int.emod_nonneg _ (by omega)
    have z1 : two / 1000 % ((S.width : Int) + 1) < (S.width : Int) + 1 := Int.emod_lt_of_pos _ (by omega)
    obtain ⟨row, hrow, okr⟩ : ∃ row : Option Int, atI (([.non] : List V) ++ (List.range S.width).map fun n => V.int (n : Nat)) (two / 1000 % ((S.width : Int) + 1)) = some (rowV row) ∧ ∀ r, row = some r → 0 ≤ r ∧ r < S.width := by
      by_cases cz : two / 1000 % ((S.width : Int) + 1) = 0
      · refine ⟨none, ?_, fun r h => nomatch h⟩
        exact at_of (j := 0) cz rfl
      · refine ⟨some (two / 1000 % ((S.width : Int) + 1) - 1), ?_, fun r h => by cases h; omega⟩
        refine at_of (j := (two / 1000 % ((S.width : Int) + 1)).toNat) (by omega) ?_
        rw [List.getElem?_append_right (by simp; omega), List.getElem?_map, List.getElem?_range (by simp; omega)]
        show some (V.int _) = some (V.int _)
        simp; omega
    have hrow' : atI (([.non] : List V) ++ (List.range S.width).map fun n => V.int (n : Nat)) (two / 1000 % (((([.non] : List V) ++ (List.range S.width).map fun n => V.int (n : Nat)).length : Nat) : Int)) = some (rowV row) := by rw [l4]; exact hrow
    dsimp only
    refine ⟨_, rfl, _, rfl, _, rfl, _, rfl, _, _, rfl, rfl, ⟨by decide, by decide⟩, .inl ⟨_, rfl, _, rfl, l3, _, rfl, .inl (.of h3), _, _, rfl, rfl, ?_, l3, _, _, _, rfl, rfl, .of h3, hrow', _, rfl, .inl ⟨F, qs, rfl, .of (s57.at hq), fun p hp => ⟨by show 4 ≤ sizeLine; decide, fun q hq2 => ?_⟩⟩⟩⟩
    · show (0 : Int) < ((([.non] : List V) ++ (List.range S.width).map fun n => V.int (n : Nat)).length : Nat)
      rw [l4]; omega
    have s8 := (s57.trans (Same.new (o := .tup qs) hp)).trans (Same.new (o := .tup [.int (b : Nat), .bl d, rowV row, .ref p]) hq2)
    refine k _ _ ⟨b, d, row, es⟩ (s5.trans s8) ⟨q, .ref p, rfl, upd_same, ⟨p, qs, rfl, (Same.new hq2).at upd_same, mono_paired mono_ints (Keep.of s8) pq⟩⟩ ⟨hbl, hd, okr, le, oe⟩
end
end EL

set_option maxHeartbeats 4000000
namespace EL
open PySem L2
/-! ### the deeds of the rows differ -/
theorem th_inj {d d' : Deed} (h : d.th = d'.th) : d = d' := by
  have hv : d.vals = d'.vals := by unfold Deed.th at h; exact Th.tup.inj h
  have s1 : ¬ (V.str "begin" = V.str "visit") := fun q => absurd (V.str.inj q) (by decide +kernel)
  cases d <;> cases d' <;> simp only [Deed.vals, List.cons.injEq, V.int.injEq, and_true, V.str.injEq, List.cons_ne_nil, and_false, reduceCtorEq, true_and] at hv
  · rfl
  · exact absurd hv (by decide +kernel)
  · exact absurd hv (by decide +kernel)
  · rfl
  · rename_i a b
    have : a = b := by omega
    rw [this]
  · rename_i a v b v'
    obtain ⟨h1, h2⟩ := hv
    have : a = b := by omega
    rw [this, h2]
theorem win_nodup (S : Sch) (b l : Nat) : (win S b l).Nodup := by
  unfold win
  exact List.nodup_range.sublist (List.drop_sublist _ _)
theorem rows_nodup (S : Sch) (l : Nat) (s : Sta) : ((rowsIn S l s).map Prod.fst).Nodup := by
  have mA : ∀ d ∈ (rowsA S s).map Prod.fst, d = .begin := by
    intro d hd; unfold rowsA at hd; split at hd <;> simpa using hd
  have mB : ∀ d ∈ (rowsB S s).map Prod.fst, d = .visit := by
    intro d hd; unfold rowsB at hd; split at hd <;> simpa using hd
  have mC : ∀ d ∈ (rowsC S l s).map Prod.fst, ∃ n, d = .cut n := by
    intro d hd; unfold rowsC at hd; split at hd
    · simp at hd
    · obtain ⟨r, hr, rfl⟩ := List.mem_map.mp hd
      obtain ⟨n, _, rfl⟩ := List.mem_map.mp hr
      exact ⟨n, rfl⟩
  have mP : ∀ n, ∀ d ∈ (putsOf S s n).map Prod.fst, ∃ v : Nat, d = .put n v := by
    intro n d hd; unfold putsOf at hd
    obtain ⟨r, hr, rfl⟩ := List.mem_map.mp hd
    obtain ⟨v, _, rfl⟩ := List.mem_map.mp hr
    exact ⟨v, rfl⟩
  have mD : ∀ d ∈ (rowsD S l s).map Prod.fst, ∃ (n v : Nat), d = .put n v := by
    intro d hd; unfold rowsD at hd
    obtain ⟨r, hr, rfl⟩ := List.mem_map.mp hd
    obtain ⟨n, _, hr2⟩ := List.mem_flatMap.mp hr
    obtain ⟨v, e⟩ := mP n r.1 (List.mem_map.mpr ⟨r, hr2, rfl⟩)
    exact ⟨n, v, e⟩
  have nA : ((rowsA S s).map Prod.fst).Nodup := by unfold rowsA; split <;> simp
  have nB : ((rowsB S s).map Prod.fst).Nodup := by unfold rowsB; split <;> simp
  have nC : ((rowsC S l s).map Prod.fst).Nodup := by
    unfold rowsC; split
    · simp
    · rw [List.map_map]
      exact List.Pairwise.map _ (fun a b h => fun e => h (by injection e)) (win_nodup S s.begun l)
  have nP : ∀ n, ((putsOf S s n).map Prod.fst).Nodup := by
    intro n; unfold putsOf; rw [List.map_map]
    refine List.Pairwise.map _ (fun a b h => fun e => h ?_) (List.Pairwise.filter _ (List.nodup_range (n := S.width)))
    have e' : Deed.put n (a : Int) = Deed.put n (b : Int) := e
    injection e' with _ q; omega
  have nD : ∀ ns : List Nat, ns.Nodup → ((ns.flatMap (putsOf S s)).map Prod.fst).Nodup := by
    intro ns
    induction ns with
    | nil => intro _; simp
    | cons n r ih =>
      intro h
      obtain ⟨h1, h2⟩ := List.nodup_cons.mp h
      rw [List.flatMap_cons, List.map_append]
      refine List.nodup_append.mpr ⟨nP n, ih h2, fun x hx y hy e => ?_⟩
      obtain ⟨v, e1⟩ := mP n x hx
      obtain ⟨q, hq, rfl⟩ := List.mem_map.mp hy
      obtain ⟨m, hm, hq2⟩ := List.mem_flatMap.mp hq
      obtain ⟨v2, e2⟩ := mP m q.1 (List.mem_map.mpr ⟨q, hq2, rfl⟩)
      rw [e1, e2] at e
      injection e with e _
      exact h1 (e ▸ hm)
  unfold rowsIn
  rw [List.map_append, List.map_append, List.map_append]
  refine List.nodup_append.mpr ⟨List.nodup_append.mpr ⟨List.nodup_append.mpr ⟨nA, nB, fun x hx y hy e => ?_⟩, nC, fun x hx y hy e => ?_⟩, nD _ (win_nodup S s.begun l), fun x hx y hy e => ?_⟩
  · rw [mA x hx, mB y hy] at e; cases e
  · obtain ⟨n, e2⟩ := mC y hy
    rcases List.mem_append.mp hx with q | q
    · rw [mA x q, e2] at e; cases e
    · rw [mB x q, e2] at e; cases e
  · obtain ⟨n, v, e2⟩ := mD y hy
    rcases List.mem_append.mp hx with q | q
    · rcases List.mem_append.mp q with q | q
      · rw [mA x q, e2] at e; cases e
      · rw [mB x q, e2] at e; cases e
    · obtain ⟨m, e3⟩ := mC x q
      rw [e3, e2] at e; cases e
theorem head_hits {d : Deed} {s : Sta} : ∀ {l : List (Deed × Sta)}, (l.map Prod.fst).Nodup → (d, s) ∈ l → ((l.filter (hits d.th)).map Prod.snd).head? = some s
  | [], _, h => by simp at h
  | r :: t, nd, h => by
    rw [List.map_cons] at nd
    obtain ⟨n1, n2⟩ := List.nodup_cons.mp nd
    by_cases c : r.1 = d
    · have e : (d, s) = r := by
        rcases List.mem_cons.mp h with q | q
        · exact q
        · exact absurd (List.mem_map.mpr ⟨(d, s), q, c.symm⟩) n1
      rw [List.filter_cons, if_pos (by unfold hits; rw [c]; exact decide_eq_true rfl), ← e]
      rfl
    · have hm : (d, s) ∈ t := by
        rcases List.mem_cons.mp h with q | q
        · exact absurd (by rw [← q]) c
        · exact q
      rw [List.filter_cons, if_neg (by unfold hits; rw [decide_eq_true_eq]; exact fun q => c (th_inj q))]
      exact head_hits n2 hm
theorem done_row {S : Sch} {l : Nat} {st : Sta} {d : Deed} {s : Sta} (h : (d, s) ∈ rowsIn S l st) : doneM S l st d.th = some s := by
  unfold doneM doneL
  rw [if_pos (isDeed_deed d)]
  exact head_hits (rows_nodup S l st) h
theorem wish3_in {L M T : Bool} {x : Str} (h : x ∈ wish3 L M T) : x ∈ three := by
  unfold wish3 at h
  cases L <;> cases M <;> cases T <;> simp at h ⊢ <;> first | exact h | (rcases h with h | h <;> simp [h]) | simp [h]
theorem dp_strs {K : PySem.W.Frag} {H : Hp} : ∀ {e : List Str}, DpAll K H (e.map V.str) (e.map PyData.str)
  | [] => .nil
  | x :: r => .cons (.str x) dp_strs
theorem shp_breaks (S : Sch) (l : Nat) (s : Sta) : Shp 1 (.list ((breaksM S l s).map PyData.str)) := .lst fun d hd => by
  obtain ⟨x, hx, rfl⟩ := List.mem_map.mp hd
  have key : ∀ y ∈ three, PyData.strOk y = true := by decide +kernel
  exact .str (key x (wish3_in hx))
section
variable {P : Program} {w : World} {K : PySem.W.Frag} {mg : Str → Option Value} {base : Heap} {C D2 aW aX f : Addr} {fd : FuncData}
/-! ### _law_state_right -/
abbrev sLRight : Stmt := top 54
def spLRight (C : Addr) : Sp := fun vs H Q _ => ∃ (x y v : V) (S : Sch) (st : Sta) (l : Nat), vs = [x, y, .int l, v] ∧ SchT C H x S ∧ PartsT H y S ∧ OkSch S ∧ l ≤ 4 ∧ StaT H v st ∧ OkSta S st ∧ ∀ H', Same H H' → Q (.bl true) H'
theorem scLRight : FnScope ["schedule", "parts", "loss", "state", "rows", "row", "deed", "late"] ["schedule", "parts", "loss", "state"] (defScope sLRight) := ⟨rfl, rfl, rfl, by decide +kernel, rfl, by decide +kernel, by decide +kernel⟩
theorem ok_law_right (F : Fun K "_law_state_right" "_law_state_right" sLRight f fd) (T : Txt K mg C aW aX) (c_law_moves : Ca P w K mg base CX0 2 "_law_moves" ["parts", "loss", "state"] spLMoves) (c_law_breaks : Ca P w K mg base CX0 2 "_law_breaks" ["parts", "loss", "state"] spLBreaks)
    (c_deeds : CaK P w K mg base CX0 5 "deeds" 2 ["lag"] ["schedule", "state", "lag"] (spDeeds C)) (c_broken : CaK P w K mg base CX0 6 "broken" 2 ["lag"] ["schedule", "state", "lag"] (spBroken C))
    (c_after : CaK P w K mg base (L2.CX P w) 6 "after" 3 ["lag"] ["schedule", "state", "deed", "lag"] (spAfter C D2)) :
    FnOk P w K mg base CX0 7 f fd ["schedule", "parts", "loss", "state"] (spLRight C) := by
  refine F.ok scLRight (fun vs H Q E h => ?_) (fun cdv A outer s H vs Q E hr h => ?_)
  · obtain ⟨_, _, _, _, _, _, rfl, _⟩ := h; rfl
  · obtain ⟨x, y, v, S, st, l, rfl, hS, hP, okS, hl, hV, ok, k⟩ := h
    have nd := scLRight.nd
    refine ⟨_, (pss_cons (ps_set (i := 4) nd rfl (by first | exact Or.inl rfl | exact Or.inr rfl) (pe_ca c_law_moves (hr.mono (by decide)) (by rfl) pass0 (pa_cons (pv 1) (pa_cons (pv 2) (pa_cons (pv 3) pa_nil)))))
      (pss_cons (ps_if (pt_cmpR (kNeD K rfl hr.units) (pe_caK c_deeds (hr.mono (by decide)) (by rfl) pass0 (pa_cons (pv 0) (pa_cons (pv 3) pa_nil)) (pk_cons (pv 2) pk_nil)) (pe_lc  (own := [("row", 5)]) rfl nd (kPiL K rfl (pv 4)) (blkOk_by (by kernel_rfl)) (fun _ _ _ _ _ => (pg_name (i := 5) nd rfl (by first | exact Or.inl rfl | exact Or.inr rfl))) (fun _ _ _ _ _ => pts_nil) (fun _ _ _ _ _ => (pe_ix (kIxT K) (pv 5) pe_int (fun _ _ => rfl)))) (nomark _)) (pss_one (ps_ret pe_bl)) pss_nil)
      (pss_cons (ps_if (pt_cmpR (kNeD K rfl hr.units) (pe_caK c_broken (hr.mono (by decide)) (by rfl) pass0 (pa_cons (pv 0) (pa_cons (pv 3) pa_nil)) (pk_cons (pv 2) pk_nil)) (pe_ca c_law_breaks (hr.mono (by decide)) (by rfl) pass0 (pa_cons (pv 1) (pa_cons (pv 2) (pa_cons (pv 3) pa_nil)))) (nomark _)) (pss_one (ps_ret pe_bl)) pss_nil)
      (pss_one (ps_ret (pe_callB (kAll K rfl rfl) (by rfl) T.n_all (by decide +kernel) (pa_cons (pe_lc  (own := [("deed", 6), ("late", 7)]) rfl nd (kPiL K rfl (pv 4)) (blkOk_by (by kernel_rfl)) (fun _ _ _ _ _ => (kTg K (n := 2) rfl rfl (pgs_cons (pg_name (i := 6) nd rfl (by first | exact Or.inl rfl | exact Or.inr rfl)) (pgs_cons (pg_name (i := 7) nd rfl (by first | exact Or.inl rfl | exact Or.inr rfl)) pgs_nil)))) (fun _ _ _ _ _ => pts_nil) (fun _ _ _ _ _ => (pe_cmpR (kEqD K rfl hr.units) (pe_caK c_after (hr.mono (by decide)) (by rfl) passL (pa_cons (pv 0) (pa_cons (pv 3) (pa_cons (pv 6) pa_nil))) (pk_cons (pv 2) pk_nil)) (pv 7) (nomark _)))) pa_nil))))))), ?_⟩
    refine ⟨_, rfl, _, rfl, _, rfl, y, v, S, st, l, rfl, hP, okS, hV, ok, fun H1 u1 s1 ⟨a, xs, e, ha, pa⟩ => ?_⟩
    subst e
    have l54 := len_rows okS l st
    have lx := pa.e_len
    dsimp only
    -- deeds
    refine ⟨_, rfl, _, rfl, _, rfl, rfl, rfl, x, v, S, st, l, rfl, sch_keep (Keep.of s1) hS, okS, mono_sta.go (Keep.of s1) hV, ok, hl, fun H2 u2 s2 hu2 => ?_⟩
    have ha2 := s2.at ha
    refine ⟨_, rfl, a, rfl, ⟨_, .of ha2⟩, fun D hD => lc_list (K := K) (a := a) (xs := xs) (fun i H' => Same H2 H' ∧ ∃ zs, H' D = some (.lst zs) ∧ Paired (DeedT H') zs (((rowsIn S l st).take i).map Prod.fst)) ⟨Same.new hD, [], upd_same, .nil⟩ (fun i H' _ h => SqL.of (h.1.at ha2)) ?_ ?_⟩
    · rintro i z H' hi ⟨s3, zs, hz, pz⟩
      obtain ⟨⟨d, s'⟩, hr2, c, zd, zs2, rfl, hc, dd, ds⟩ := (mono_paired mono_row (Keep.of s2) pa).e_at hi
      have hil := lt_of_at hi
      have k3 := Keep.of s3
      have lz : zs.length ≤ 54 := by rw [pz.e_len, List.length_map, List.length_take]; omega
      refine ⟨rfl, yes (ifT rfl ⟨_, rfl, c, _, _, _, rfl, rfl, .of (s3.at hc), at0, zs, hz, small1000 (by omega), s3.own hD, zs ++ [zd], upd_same, ?_⟩)⟩
      have kk : Keep H' (upd H' D (.lst (zs ++ [zd]))) := Keep.lst hz
      rw [take_succ hr2, List.map_append]
      exact (mono_paired mono_deed kk pz).e_snoc (mono_deed.go (k3.trans kk) dd)
    rintro H3 ⟨s3, zs, hz, pz⟩
    rw [lx, List.take_length] at pz
    have hu3 : LstOf DeedT H3 u2 ((rowsIn S l st).map Prod.fst) := by
      obtain ⟨b, qs, e, hb, pb⟩ := hu2
      exact ⟨b, qs, e, s3.at hb, mono_paired mono_deed (Keep.of s3) pb⟩
    refine ⟨.list (((rowsIn S l st).map Prod.fst).map dDeed), .list (((rowsIn S l st).map Prod.fst).map dDeed), dp_list (fun _ _ q => dp_deed q) hu3, dp_list (R := DeedT) (fun _ _ q => dp_deed q) ⟨D, zs, rfl, hz, pz⟩, (shp_list shp_deed _).go, (shp_list shp_deed _).go, _, rfl, ifF (by rw [eqv_self (shp_list shp_deed _).go]; rfl) ?_⟩
    have s13 := (s1.trans s2).trans s3
    -- broken
    refine ⟨_, rfl, _, rfl, _, rfl, rfl, rfl, x, v, S, st, l, rfl, sch_keep (Keep.of s13) hS, okS, mono_sta.go (Keep.of s13) hV, ok, hl, fun H4 p4 s4 h4 => ?_⟩
    have s14 := s13.trans s4
    refine ⟨_, rfl, _, rfl, _, rfl, y, v, S, st, l, rfl, mono_parts.go (Keep.of s14) hP, okS, mono_sta.go (Keep.of s14) hV, ok, fun H5 p5 s5 h5 => ?_⟩
    refine ⟨.list ((breaksM S l st).map PyData.str), .list ((breaksM S l st).map PyData.str), .lst (.of (s5.at h4)) dp_strs, .lst (.of h5) dp_strs, (shp_breaks S l st).go, (shp_breaks S l st).go, _, rfl, ifF (by rw [eqv_self (shp_breaks S l st).go]; rfl) ?_⟩
    have s15 := s14.trans s5
    have sa5 : Same H1 H5 := ((s2.trans s3).trans s4).trans s5
    have ha5 := sa5.at ha
    -- after
    refine ⟨_, rfl, a, rfl, ⟨_, .of ha5⟩, fun D5 hD5 => lc_list (K := K) (a := a) (xs := xs) (fun i H' => Same H5 H' ∧ H' D5 = some (.lst ((List.replicate i true).map V.bl))) ⟨Same.new hD5, upd_same⟩ (fun i H' _ h => SqL.of (h.1.at ha5)) ?_ ?_⟩
    · rintro i z H' hi ⟨s6, h6⟩
      obtain ⟨⟨d, s'⟩, hr2, c, zd, zs2, rfl, hc, dd, ds⟩ := (mono_paired mono_row (Keep.of (sa5.trans s6)) pa).e_at hi
      have hil := lt_of_at hi
      have s16 := s15.trans s6
      refine ⟨c, _, rfl, .of hc, rfl, _, _, rfl, _, _, rfl, rfl, rfl, yes (ifT rfl ⟨_, rfl, _, rfl, _, rfl, _, rfl, rfl, rfl, x, v, zd, S, st, l, d.th, rfl, sch_keep (Keep.of s16) hS, okS, mono_sta.go (Keep.of s16) hV, ok, hl, thT_deed dd, okTh_deed d, ?_⟩)⟩
      rw [done_row (List.mem_of_getElem? hr2)]
      intro H7 u s7 hu
      refine ⟨_, rfl, dSta s', dSta s', dp_sta hu, dp_sta (mono_sta.go (Keep.of s7) ds), (shp_sta s').go, (shp_sta s').go, _, s7.at h6, ?_, (s6.trans s7).own hD5, ?_⟩
      · rw [List.length_map, List.length_replicate]; exact small1000 (by omega)
      · rw [eqv_self (shp_sta s').go, tru_rep]; exact upd_same
    · rintro H' ⟨s6, h6⟩
      refine ⟨D5, _, rfl, .of h6, ?_⟩
      rw [all_rep]
      exact k _ (s15.trans s6)
end
end EL

set_option maxHeartbeats 4000000
namespace EL
open PySem PySem.Spec PyProof.Rows L2
/-! ### a call with keyword-only arguments whose exception is wanted by slots -/
section
variable {X : Cx} {CX : CXT} {k n : Nat} {f : Addr} {fd : FuncData} {ps ks : List Str} {sp : Sp} {E : L2.St → XK} {x : Str} {p pos : Pos} {e : Expr} {es : List Expr} {kws : List Keyword} {t tk : TA}
def tCallNS (n m : Nat) (sp : Sp) (E : L2.St → XK) (t tk : TA) : TE := fun σ H Q => t σ H fun vs H1 => tk σ H1 fun zs H2 => vs.length = n ∧ zs.length = m ∧ sp (vs ++ zs) H2 Q (E σ)
theorem pe_caKS (c : CaK X.prog X.w X.K X.mg X.base CX k x n ks ps sp) (hr : Room k X.A) (hg : Gl X x) (hx : ∀ σ, PassesAt CX X σ (E σ))
    (ha : PA X (e :: es) t) (hkw : PK X kws tk) (hall : (backToKw pos (keywordEach kws X.env)).all (·.1.isSome) = true := by rfl) (hks : (backToKw pos (keywordEach kws X.env)).filterMap (·.1) = ks := by rfl)
    (hdb : (x == ("__debug__" : Str)) = false := by decide) (he : starEach (e :: es) X.env = (false, eval e X.env) :: starEach es X.env := by rfl)
    (hpl : ((backTo pos (starEach (e :: es) X.env)).any (·.1) || (backToKw pos (keywordEach kws X.env)).any (·.1.isNone)) = false := by rfl) :
    PE X (.Call (.Name x p) (e :: es) kws pos) (tCallNS n ks.length sp E t tk) := by
  obtain ⟨f, fd, F, hm, hk, hb⟩ := c
  refine ⟨fun pins s σ H Q I h => ?_⟩
  refine wpAny_Call_Name_kw (ld_glob I hg hm ?_ hdb)
  refine PySem.W.callWith_KW (h₀ := X.base) I.ok.mod.kin hk hall (thn (ha.run pos pins s σ H _ I h) fun us s1 ⟨vs, H1, I1, r, q⟩ => ?_) hpl he
  refine thn (hkw.run pos pins s1 σ H1 _ I1 q) fun ws s2 ⟨zs, H2, I2, rz, l1, l2, q2⟩ => ⟨I2.kIn, ?_⟩
  rw [hks]
  have r2 := hb.rel r rz
  refine wpAny_call (codeAny_mono (F.run X.A X.stack s2 H2 ⟨us, ks.zip ws⟩ (us ++ ws) (vs ++ zs) Q (E σ) hr I2.env0 (hb.to s2 us ws I2.kIn (r.length.symm.trans l1) (rz.length.symm.trans l2)) r2 q2) fun r s' hq => ?_)
  cases r with
  | error e => exact hx σ pins H2 s2 e s' I2 hq
  | ok fl =>
    cases fl with
    | ret u => exact I2.after hq
    | next => exact False.elim hq
    | brk => exact False.elim hq
    | cont => exact False.elim hq
end
/-! ### what the histories give -/
def Wv (S : Sch) (l : Nat) (y : V) (H : Hp) (A : List Sta → Prop) (B : Nat → Prop) (Z : Prop) : Prop :=
  (∃ (ts : List Th) (sts : List Sta), HisT H y ts ∧ (∀ t ∈ ts, OkTh t) ∧ ts.length < 16 ∧ (∀ s ∈ firstM S :: sts, OkSta S s) ∧ Chain S l ts sts ∧
      ((sts.length = ts.length ∧ A sts) ∨ (∃ t s, ts[sts.length]? = some t ∧ (firstM S :: sts)[sts.length]? = some s ∧ doneM S l s t = none ∧ B sts.length))) ∨ (∃ i, y = .int i ∧ Z)
theorem Wv.mono {S : Sch} {l : Nat} {y : V} {H : Hp} {A A' : List Sta → Prop} {B B' : Nat → Prop} {Z Z' : Prop} (h : Wv S l y H A B Z) (ha : ∀ s, A s → A' s) (hb : ∀ n, B n → B' n) (hz : Z → Z') : Wv S l y H A' B' Z' := by
  rcases h with ⟨ts, sts, h1, h2, h3, h4, h5, h6⟩ | ⟨i, e, z⟩
  · refine .inl ⟨ts, sts, h1, h2, h3, h4, h5, ?_⟩
    rcases h6 with ⟨q1, q2⟩ | ⟨t, s, q1, q2, q3, q4⟩
    · exact .inl ⟨q1, ha _ q2⟩
    · exact .inr ⟨t, s, q1, q2, q3, hb _ q4⟩
  · exact .inr ⟨i, e, hz z⟩
theorem wov_of {C C2 : Addr} {S : Sch} {l : Nat} {y : V} {H : Hp} {Q : VK} {E : XK} (h : Wv S l y H (fun sts => ∀ H' u, Same H H' → LstOf StaT H' u sts → Q u H') (fun n => ∀ H' d, Same H H' → H' d = some (.xd [("index", .int (n : Nat))]) → E (.ref C2) (some d) H')
    (∀ H' d, Same H H' → H' d = some (.xd [("index", .non)]) → E (.ref C2) (some d) H')) : spWov C C2 S l y H Q E := h
structure ExX (K : PySem.W.Frag) (mg : Str → Option Value) (x : Str) (C : Addr) : Prop where
  g : mg x = some (.ref C)
  self : PySem.W.exmOne K (.ref C) (.ref C) = some true
section
variable {P : Program} {w : World} {K : PySem.W.Frag} {mg : Str → Option Value} {base : Heap} {C C2 D2 aW aX f : Addr} {fd : FuncData}
/-! ### _law_bad -/
abbrev sLBad : Stmt := top 55
def spLBad (C : Addr) : Sp := fun vs H Q _ => ∃ (x y : V) (S : Sch) (l : Nat), vs = [x, .int l, y] ∧ SchT C H x S ∧ OkSch S ∧ l ≤ 4 ∧
  Wv S l y H (fun _ => ∀ H', Same H H' → Q .non H') (fun n => ∀ H', Same H H' → Q (.int (n : Nat)) H') (∀ H', Same H H' → Q (.int (-1)) H')
theorem scLBad : FnScope ["schedule", "loss", "history", "error"] ["schedule", "loss", "history"] (defScope sLBad) := ⟨rfl, rfl, rfl, by decide +kernel, rfl, by decide +kernel, by decide +kernel⟩
theorem ok_law_bad (F : Fun K "_law_bad" "_law_bad" sLBad f fd) (T : Txt K mg C aW aX) (EX : ExX K mg "BadDeeds" C2) (XF : XfC K C2) (nidx : PySem.W.findIn K (.ref C2) "index" = some none)
    (c_woven : CaK P w K mg base (L2.CX P w) 7 "woven" 2 ["lag"] ["schedule", "history", "lag"] (spWoven C C2)) :
    FnOk P w K mg base CX0 8 f fd ["schedule", "loss", "history"] (spLBad C) := by
  refine F.ok scLBad (fun vs H Q E h => ?_) (fun cdv A outer s H vs Q E hr h => ?_)
  · obtain ⟨_, _, _, _, rfl, _⟩ := h; rfl
  · obtain ⟨x, y, S, l, rfl, hS, okS, hl, h⟩ := h
    have nd := scLBad.nd
    refine ⟨_, (pss_cons (ps_try_as (i := 3) (Wout := fun _ _ _ _ => False) rfl rfl nd rfl rfl ⟨rfl, by decide, Or.inl EX.g⟩ takes0
      (fun W pn xe tk _ => pss_one (ps_expr (pe_caKS (E := WE W) c_woven (hr.mono (by decide)) (by rfl) (fun σ => passAt tk σ) (pa_cons (pv 0) (pa_cons (pv 2) pa_nil)) (pk_cons (pv 1) pk_nil))))
      (fun a oe cls d pn hz hf => pss_one (ps_ret (pe_ifExp (pt_cmp (pc_isN (pe_xf XF nidx hz hf (pv 3)))) (pe_un un_neg pe_int) (pe_xf XF nidx hz hf (pv 3))))))
      (pss_one (ps_ret pe_non))), ?_⟩
    refine ⟨_, rfl, _, rfl, _, rfl, rfl, rfl, x, y, S, l, rfl, hS, okS, hl, wov_of (h.mono (fun sts k H' u s1 _ => k H' s1) (fun n k H' d s1 hd => ?_) (fun k H' d s1 hd => ?_))⟩
    · exact ⟨true, EX.self, fun _ a ha => ⟨_, rfl, rfl, rfl, d, _, _, rfl, hd, rfl, _, rfl, ifF rfl ⟨_, rfl, rfl, rfl, d, _, _, rfl, hd, rfl, k H' s1⟩⟩, fun h => nomatch h⟩
    · exact ⟨true, EX.self, fun _ a ha => ⟨_, rfl, rfl, rfl, d, _, _, rfl, hd, rfl, _, rfl, ifT rfl ⟨_, rfl, k H' s1⟩⟩, fun h => nomatch h⟩
/-! ### _law_is_refused -/
abbrev sLRefused : Stmt := top 56
def spLRefused (C : Addr) : Sp := fun vs H Q _ => ∃ (x v y : V) (S : Sch) (st : Sta) (l : Nat) (t : Th), vs = [x, .int l, v, y] ∧ SchT C H x S ∧ OkSch S ∧ StaT H v st ∧ OkSta S st ∧ l ≤ 4 ∧ ThT H y t ∧ OkTh t ∧ doneM S l st t = none ∧ ∀ H', Same H H' → Q (.bl true) H'
theorem scLRefused : FnScope ["schedule", "loss", "state", "deed"] ["schedule", "loss", "state", "deed"] (defScope sLRefused) := ⟨rfl, rfl, rfl, by decide +kernel, rfl, by decide +kernel, by decide +kernel⟩
theorem ok_law_refused (F : Fun K "_law_is_refused" "_law_is_refused" sLRefused f fd) (T : Txt K mg C aW aX) (EX : ExX K mg "BadDeed" D2)
    (c_after : CaK P w K mg base (L2.CX P w) 6 "after" 3 ["lag"] ["schedule", "state", "deed", "lag"] (spAfter C D2)) :
    FnOk P w K mg base CX0 7 f fd ["schedule", "loss", "state", "deed"] (spLRefused C) := by
  refine F.ok scLRefused (fun vs H Q E h => ?_) (fun cdv A outer s H vs Q E hr h => ?_)
  · obtain ⟨_, _, _, _, _, _, _, rfl, _⟩ := h; rfl
  · obtain ⟨x, v, y, S, st, l, t, rfl, hS, okS, hV, ok, hl, hY, okT, hd, k⟩ := h
    have nd := scLRefused.nd
    refine ⟨_, (pss_cons (ps_try_only (Wout := fun _ _ _ _ => False) rfl rfl ⟨rfl, by decide, Or.inl EX.g⟩ takes0
      (fun W pn xe tk _ => pss_one (ps_expr (pe_caKS (E := WE W) c_after (hr.mono (by decide)) (by rfl) (fun σ => passAt tk σ) (pa_cons (pv 0) (pa_cons (pv 2) (pa_cons (pv 3) pa_nil))) (pk_cons (pv 1) pk_nil))))
      (fun a oe cls d pn hz hf => pss_one (ps_ret pe_bl)))
      (pss_one (ps_ret pe_bl))), ?_⟩
    refine ⟨_, rfl, _, rfl, _, rfl, _, rfl, rfl, rfl, x, v, y, S, st, l, t, rfl, hS, okS, hV, ok, hl, hY, okT, ?_⟩
    rw [hd]
    intro H' s1
    exact ⟨true, EX.self, fun _ a ha => k H' s1, fun h => nomatch h⟩
end
end EL

set_option maxHeartbeats 4000000
namespace EL
open PySem L2
/-! ### moves keep states -/
theorem rows_ne (S : Sch) (okS : OkSch S) (l : Nat) (s : Sta) : 0 < (rowsIn S l s).length := by
  have h1 : (0 : Nat) < (win S s.begun l).length := win_len
  unfold rowsIn
  rw [List.length_append, List.length_append]
  cases hr : s.row with
  | some v =>
    have : 0 < (rowsC S l s).length := by unfold rowsC; rw [if_neg (by rw [hr]; simp), List.length_map]; exact h1
    omega
  | none =>
    have : 0 < (rowsD S l s).length := by
      obtain ⟨n, hn⟩ := List.exists_mem_of_length_pos h1
      have hm : putRow S s n 0 ∈ rowsD S l s := by
        unfold rowsD
        refine List.mem_flatMap.mpr ⟨n, hn, ?_⟩
        unfold putsOf
        refine List.mem_map.mpr ⟨0, List.mem_filter.mpr ⟨List.mem_range.mpr okS.w1, ?_⟩, rfl⟩
        unfold isNot
        rw [hr]; rfl
      exact List.length_pos_of_mem hm
    omega
theorem okEnt_out {S : Sch} {e : List Int} (h : OkEnt S e) (r : Option Int) : OkEnt S (outV e r) :=
  ⟨asc_outV h.asc r, fun x hx => h.lo x (mem_outV.mp hx).1, fun x hx => h.hi x (mem_outV.mp hx).1⟩
theorem okEnt_add {S : Sch} {e : List Int} {v : Int} (h : OkEnt S e) (h0 : 0 ≤ v) (h1 : v < S.width) : OkEnt S (addV e v) :=
  ⟨asc_addV h.asc v, fun x hx => by rcases mem_addV.mp hx with q | q; exact h.lo x q; omega, fun x hx => by rcases mem_addV.mp hx with q | q; exact h.hi x q; omega⟩
theorem okEnt_srv {S : Sch} {w : Str} {old new : Option Int} {e : List Int} (h : OkEnt S e) (hv : ∀ v, new = some v → 0 ≤ v ∧ v < S.width) : OkEnt S (srv w old new e) := by
  unfold srv
  have h1 : OkEnt S (if w = ("absent" : Str) then e else outV e old) := by
    split
    · exact h
    · exact okEnt_out h old
  cases new with
  | none => exact h1
  | some v =>
    dsimp only
    split
    · exact okEnt_add h1 (hv v rfl).1 (hv v rfl).2
    · exact h1
theorem served_ok {S : Sch} {ws : List Str} {old new : Option Int} : ∀ {es : List (List Int)}, (∀ e ∈ es, OkEnt S e) → (∀ v, new = some v → 0 ≤ v ∧ v < S.width) → ∀ e ∈ servedM ws old new es, OkEnt S e := by
  intro es h hv e he
  unfold servedM at he
  obtain ⟨i, hi⟩ := List.getElem?_of_mem he
  rw [List.getElem?_zipWith] at hi
  cases h1 : ws[i]? with
  | none => rw [h1] at hi; simp at hi
  | some w =>
    cases h2 : es[i]? with
    | none => rw [h1, h2] at hi; simp at hi
    | some e0 =>
      rw [h1, h2] at hi
      cases hi
      exact okEnt_srv (h e0 (List.mem_of_getElem? h2)) hv
theorem visited_ok {S : Sch} {t : Stp} {row : Option Int} {es : List (List Int)} (h : ∀ e ∈ es, OkEnt S e) (hv : ∀ v, row = some v → 0 ≤ v ∧ v < S.width) : ∀ e ∈ visitedM t row es, OkEnt S e := by
  have e0 : OkEnt S [] := ⟨.nil, (fun _ h => nomatch h), (fun _ h => nomatch h)⟩
  intro e he
  cases t with
  | ed w => exact h e he
  | sweep i =>
    rcases List.mem_or_eq_of_mem_set he with q | q
    · exact h e q
    · rw [q]; exact e0
  | fill i =>
    cases row with
    | none => exact h e he
    | some v =>
      rcases List.mem_or_eq_of_mem_set he with q | q
      · exact h e q
      · rw [q]
        refine okEnt_add ?_ (hv v rfl).1 (hv v rfl).2
        rw [List.getD_eq_getElem?_getD]
        cases q2 : es[i]? with
        | none => exact e0
        | some z => exact h z (List.mem_of_getElem? q2)
theorem visited_len (t : Stp) (row : Option Int) (es : List (List Int)) : (visitedM t row es).length = es.length := by
  cases t with
  | ed w => rfl
  | sweep i => exact List.length_set
  | fill i =>
    cases row with
    | none => rfl
    | some v => exact List.length_set
theorem rows_ok {S : Sch} (okS : OkSch S) {l : Nat} {s : Sta} (ok : OkSta S s) {r : Deed × Sta} (h : r ∈ rowsIn S l s) : OkSta S r.2 := by
  have wl : ∀ n ∈ win S s.begun l, ∀ es : List (List Int), ∀ old new, es.length = S.first.length → (servedM (S.every.getD n []) old new es).length = S.first.length := by
    intro n hn es old new he
    obtain ⟨ed, hed, led⟩ := every_at okS (win_lt hn)
    unfold servedM
    rw [List.length_zipWith, getD_of hed, led, he, Nat.min_self]
  unfold rowsIn at h
  rcases List.mem_append.mp h with h | h
  · rcases List.mem_append.mp h with h | h
    · rcases List.mem_append.mp h with h | h
      · unfold rowsA at h
        split at h
        · rename_i c
          rw [List.mem_singleton.mp h]
          refine ⟨c.2, fun hd => ?_, ok.row, ok.len, ok.ents⟩
          refine ⟨S.steps[s.begun], Nat.succ_ne_zero _, by simp [c.2], ?_⟩
          have hd' : (!(S.steps.getD s.begun (.fill 0)).isEd) = true := hd
          rw [getD_of (x := S.steps[s.begun]) (by simp [c.2])] at hd'
          simpa using hd'
        · simp at h
      · unfold rowsB at h
        split at h
        · rw [List.mem_singleton.mp h]
          exact ⟨ok.begun, (fun hd => by cases hd), ok.row, (visited_len _ _ _).trans ok.len, visited_ok ok.ents ok.row⟩
        · simp at h
    · unfold rowsC at h
      split at h
      · simp at h
      · obtain ⟨n, hn, rfl⟩ := List.mem_map.mp h
        exact ⟨ok.begun, ok.due, (fun _ h => nomatch h), wl n hn _ _ _ ok.len, served_ok ok.ents (fun _ h => nomatch h)⟩
  · unfold rowsD at h
    obtain ⟨n, hn, h⟩ := List.mem_flatMap.mp h
    unfold putsOf at h
    obtain ⟨v, hv, rfl⟩ := List.mem_map.mp h
    have hw := List.mem_range.mp (List.mem_filter.mp hv).1
    have bv : ∀ r, some (v : Int) = some r → 0 ≤ r ∧ r < S.width := fun r e => by cases e; omega
    exact ⟨ok.begun, ok.due, bv, wl n hn _ _ _ ok.len, served_ok ok.ents bv⟩
theorem first_ok (S : Sch) : OkSta S (firstM S) := by
  refine ⟨Nat.zero_le _, (fun h => by cases h), (fun _ h => nomatch h), List.length_replicate, fun e he => ?_⟩
  rw [(List.mem_replicate.mp he).2]
  exact ⟨.nil, (fun _ h => nomatch h), (fun _ h => nomatch h)⟩
/-! ### histories -/
structure Hist (S : Sch) (l : Nat) (hs : List Deed) (sts : List Sta) : Prop where
  len : hs.length = sts.length
  ok : ∀ s ∈ firstM S :: sts, OkSta S s
  ch : ∀ (i : Nat) (d : Deed) (s' : Sta), hs[i]? = some d → sts[i]? = some s' → ∃ s, (firstM S :: sts)[i]? = some s ∧ (d, s') ∈ rowsIn S l s
theorem Hist.nil (S : Sch) (l : Nat) : Hist S l [] [] := ⟨rfl, fun s h => by rw [List.mem_singleton.mp h]; exact first_ok S, fun i d s' h => by simp at h⟩
theorem cons_take {S : Sch} {sts : List Sta} {i n : Nat} {s : Sta} (h : (firstM S :: sts)[i]? = some s) (hi : i ≤ n) : (firstM S :: sts.take n)[i]? = some s := by
  cases i with
  | zero => exact h
  | succ i =>
    rw [List.getElem?_cons_succ] at h ⊢
    rw [List.getElem?_take_of_lt (by omega)]; exact h
theorem Hist.snoc {S : Sch} (okS : OkSch S) {l : Nat} {hs : List Deed} {sts : List Sta} {d : Deed} {s s' : Sta} (h : Hist S l hs sts) (hc : (firstM S :: sts)[sts.length]? = some s) (hm : (d, s') ∈ rowsIn S l s) : Hist S l (hs ++ [d]) (sts ++ [s']) := by
  have oks := h.ok s (List.mem_of_getElem? hc)
  refine ⟨by rw [List.length_append, List.length_append, h.len]; rfl, fun z hz => ?_, fun i e z hi hz => ?_⟩
  · rcases List.mem_cons.mp hz with q | q
    · rw [q]; exact first_ok S
    · rcases List.mem_append.mp q with q | q
      · exact h.ok z (List.mem_cons_of_mem _ q)
      · rw [List.mem_singleton.mp q]; exact rows_ok okS oks hm
  · have app : ∀ {j : Nat} {y : Sta}, (firstM S :: sts)[j]? = some y → (firstM S :: (sts ++ [s']))[j]? = some y := fun {j y} q => by
      rw [← List.cons_append, List.getElem?_append_left (lt_of_at q)]; exact q
    by_cases c : i < sts.length
    · rw [List.getElem?_append_left (by rw [h.len]; exact c)] at hi
      rw [List.getElem?_append_left c] at hz
      obtain ⟨y, h1, h2⟩ := h.ch i e z hi hz
      exact ⟨y, app h1, h2⟩
    · have hl := lt_of_at hz
      rw [List.length_append] at hl
      have ei : i = sts.length := by simp at hl; omega
      subst ei
      rw [← h.len, List.getElem?_concat_length] at hi
      rw [List.getElem?_concat_length] at hz
      cases hi; cases hz
      exact ⟨s, app hc, hm⟩
theorem Hist.last {S : Sch} {l : Nat} {hs : List Deed} {sts : List Sta} (h : Hist S l hs sts) : ∃ s, (firstM S :: sts)[sts.length]? = some s ∧ OkSta S s := by
  refine ⟨(firstM S :: sts)[sts.length]'(by simp), by simp, h.ok _ (List.getElem_mem _)⟩
theorem Hist.chain {S : Sch} {l : Nat} {hs : List Deed} {sts : List Sta} (h : Hist S l hs sts) (n : Nat) (more : List Th) : Chain S l ((hs.take n).map Deed.th ++ more) (sts.take n) := by
  intro i t s' ht hs'
  have hi : i < (sts.take n).length := lt_of_at hs'
  rw [List.length_take] at hi
  rw [List.getElem?_append_left (by rw [List.length_map, List.length_take, h.len]; exact hi)] at ht
  obtain ⟨d, hd, rfl⟩ := map_at ht
  rw [List.getElem?_take_of_lt (by omega)] at hd hs'
  obtain ⟨s, h1, h2⟩ := h.ch i d s' hd hs'
  exact ⟨s, cons_take h1 (by omega), done_row h2⟩
theorem Hist.oks {S : Sch} {l : Nat} {hs : List Deed} {sts : List Sta} (h : Hist S l hs sts) (n : Nat) : ∀ s ∈ firstM S :: sts.take n, OkSta S s := fun s hs => by
  rcases List.mem_cons.mp hs with q | q
  · rw [q]; exact first_ok S
  · exact h.ok s (List.mem_cons_of_mem _ (List.mem_of_mem_take q))
theorem hist_ths (hs : List Deed) : ∀ t ∈ hs.map Deed.th, OkTh t := fun t ht => by
  obtain ⟨d, _, rfl⟩ := List.mem_map.mp ht
  exact okTh_deed d
/-! ### the ten odd things -/
def odd8 : List Th := [.tup [.str "put", .int 0], .tup [.str "begin", .int 0], .tup [.str "cut", .int 99], .tup [.str "put", .int 0, .int 5], .tup [.str "visit", .int 1], .lst [.str "begin"], .int 5, .tup [.str "put", .int 0, .bl true]]
def odd10 : List Th := odd8 ++ [.tup [.str "go"], .tup []]
theorem odd_ok : ∀ t ∈ odd10, OkTh t := by
  intro t ht
  simp only [odd10, odd8, List.cons_append, List.nil_append, List.mem_cons, List.not_mem_nil, or_false] at ht
  rcases ht with rfl | rfl | rfl | rfl | rfl | rfl | rfl | rfl | rfl | rfl
  · exact ⟨⟨_, rfl, by decide +kernel⟩, rfl, by decide⟩
  · exact ⟨⟨_, rfl, by decide +kernel⟩, rfl, by decide⟩
  · exact ⟨⟨_, rfl, by decide +kernel⟩, rfl, by decide⟩
  · exact ⟨⟨_, rfl, by decide +kernel⟩, rfl, by decide⟩
  · exact ⟨⟨_, rfl, by decide +kernel⟩, rfl, by decide⟩
  · trivial
  · trivial
  · exact ⟨⟨_, rfl, by decide +kernel⟩, rfl, by decide⟩
  · exact ⟨⟨_, rfl, by decide +kernel⟩, rfl, by decide⟩
  · trivial
theorem deed_kinds {S : Sch} (okS : OkSch S) {l : Nat} {s : Sta} {r : Deed × Sta} (h : r ∈ rowsIn S l s) : r.1 = .begin ∨ r.1 = .visit ∨ (∃ n, n < 14 ∧ r.1 = .cut n) ∨ ∃ n v : Nat, v < 3 ∧ r.1 = .put n v := by
  unfold rowsIn at h
  rcases List.mem_append.mp h with h | h
  · rcases List.mem_append.mp h with h | h
    · rcases List.mem_append.mp h with h | h
      · unfold rowsA at h; split at h
        · rw [List.mem_singleton.mp h]; exact .inl rfl
        · simp at h
      · unfold rowsB at h; split at h
        · rw [List.mem_singleton.mp h]; exact .inr (.inl rfl)
        · simp at h
    · unfold rowsC at h; split at h
      · simp at h
      · obtain ⟨n, hn, rfl⟩ := List.mem_map.mp h
        exact .inr (.inr (.inl ⟨n, by have := win_lt hn; have := eds_small okS.n12 s.begun; omega, rfl⟩))
  · unfold rowsD at h
    obtain ⟨n, hn, h⟩ := List.mem_flatMap.mp h
    unfold putsOf at h
    obtain ⟨v, hv, rfl⟩ := List.mem_map.mp h
    have hw := List.mem_range.mp (List.mem_filter.mp hv).1
    exact .inr (.inr (.inr ⟨n, v, by have := okS.w3; omega, rfl⟩))
theorem no_hit {S : Sch} (okS : OkSch S) {l : Nat} {s : Sta} {t : Th} (h1 : t ≠ Deed.begin.th) (h2 : t ≠ Deed.visit.th) (h3 : ∀ n : Nat, n < 14 → t ≠ (Deed.cut n).th) (h4 : ∀ n v : Nat, v < 3 → t ≠ (Deed.put n v).th) : doneM S l s t = none := by
  unfold doneM doneL
  split
  · have e : (rowsIn S l s).filter (hits t) = [] := by
      rw [List.filter_eq_nil_iff]
      intro r hr q
      have q' : r.1.th = t := of_decide_eq_true q
      rcases deed_kinds okS hr with e | e | ⟨n, hn, e⟩ | ⟨n, v, hv, e⟩
      · exact h1 (by rw [← q', e])
      · exact h2 (by rw [← q', e])
      · exact h3 n hn (by rw [← q', e])
      · exact h4 n v hv (by rw [← q', e])
    rw [e]; rfl
  · rfl
theorem odd_none {S : Sch} (okS : OkSch S) {l : Nat} {s : Sta} : ∀ t ∈ odd10, doneM S l s t = none := by
  intro t ht
  have nd : ∀ {t : Th}, isDeed t = false → doneM S l s t = none := fun {t} h => by
    unfold doneM doneL; rw [if_neg (by rw [h]; decide)]; rfl
  simp only [odd10, odd8, List.cons_append, List.nil_append, List.mem_cons, List.not_mem_nil, or_false] at ht
  rcases ht with rfl | rfl | rfl | rfl | rfl | rfl | rfl | rfl | rfl | rfl
  · refine no_hit okS (by decide +kernel) (by decide +kernel) (fun n _ e => ?_) (fun n v _ e => ?_)
    · have e' := Th.tup.inj e
      simp only [Deed.vals, List.cons.injEq, V.str.injEq] at e'
      exact absurd e'.1 (by decide +kernel)
    · have e' := congrArg List.length (Th.tup.inj e)
      simp [Deed.vals] at e'
  · refine no_hit okS (by decide +kernel) (by decide +kernel) (fun n _ e => ?_) (fun n v _ e => ?_)
    · have e' := Th.tup.inj e
      simp only [Deed.vals, List.cons.injEq, V.str.injEq] at e'
      exact absurd e'.1 (by decide +kernel)
    · have e' := congrArg List.length (Th.tup.inj e)
      simp [Deed.vals] at e'
  · refine no_hit okS (by decide +kernel) (by decide +kernel) (fun n hn e => ?_) (fun n v _ e => ?_)
    · have e' := Th.tup.inj e
      simp only [Deed.vals, List.cons.injEq, V.int.injEq] at e'
      omega
    · have e' := congrArg List.length (Th.tup.inj e)
      simp [Deed.vals] at e'
  · refine no_hit okS (by decide +kernel) (by decide +kernel) (fun n hn e => ?_) (fun n v hv e => ?_)
    · have e' := congrArg List.length (Th.tup.inj e)
      simp [Deed.vals] at e'
    · have e' := Th.tup.inj e
      simp only [Deed.vals, List.cons.injEq, V.int.injEq] at e'
      omega
  · refine no_hit okS (by decide +kernel) (by decide +kernel) (fun n _ e => ?_) (fun n v _ e => ?_)
    · have e' := Th.tup.inj e
      simp only [Deed.vals, List.cons.injEq, V.str.injEq] at e'
      exact absurd e'.1 (by decide +kernel)
    · have e' := congrArg List.length (Th.tup.inj e)
      simp [Deed.vals] at e'
  · exact nd rfl
  · exact nd rfl
  · exact nd rfl
  · refine no_hit okS (by decide +kernel) (by decide +kernel) (fun n _ e => ?_) (fun n v _ e => ?_)
    · have e' := congrArg List.length (Th.tup.inj e)
      simp [Deed.vals] at e'
    · have e' := congrArg List.length (Th.tup.inj e)
      simp [Deed.vals] at e'
  · exact nd rfl
end EL

set_option maxHeartbeats 16000000
namespace EL
open PySem L2
theorem paired_map {α β : Type} {R : V → α → Prop} {R' : V → β → Prop} {f : α → β} (h : ∀ v a, R v a → R' v (f a)) : ∀ {xs : List V} {as : List α}, Paired R xs as → Paired R' xs (as.map f)
  | _, _, .nil => .nil
  | _, _, .cons r t => .cons (h _ _ r) (paired_map h t)
theorem his_of {H : Hp} {a : Addr} {ds : List V} {hs : List Deed} (h : H a = some (.lst ds) ∨ H a = some (.tup ds)) (p : Paired (DeedT H) ds hs) : HisT H (.ref a) (hs.map Deed.th) := ⟨a, ds, rfl, h, paired_map (fun _ _ q => thT_deed q) p⟩
section
variable {P : Program} {w : World} {K : PySem.W.Frag} {mg : Str → Option Value} {base : Heap} {C C2 aW aX f : Addr} {fd : FuncData}
abbrev sLaw : Stmt := top 57
def spLaw (K : PySem.W.Frag) : Sp := fun vs H Q _ => ∃ (x : V), vs = [x] ∧ ScrT K H x ∧ ∀ H', Q (.bl true) H'
theorem scLaw : FnScope ["script", "odd", "turn", "loss", "many", "parts", "schedule", "history", "states", "state", "step", "rows", "deed", "seed", "thing", "spot"] ["script"] (defScope sLaw) := ⟨rfl, rfl, rfl, by decide +kernel, rfl, by decide +kernel, by decide +kernel⟩
theorem ok_law (F : Fun K "law" "law" sLaw f fd) (T : Txt K mg C aW aX) (c_law_number : Ca P w K mg base CX0 1 "_law_number" ["script", "index"] (spNumber K)) (c_law_parts : Ca P w K mg base CX0 2 "_law_parts" ["script", "at", "top", "many"] (spLParts K))
    (c_law_made : Ca P w K mg base CX0 6 "_law_made" ["parts"] (spLMade C)) (c_first_state : Ca P w K mg base CX0 4 "first_state" ["schedule"] (spFirstOf C)) (c_law_state_right : Ca P w K mg base CX0 7 "_law_state_right" ["schedule", "parts", "loss", "state"] (spLRight C))
    (c_law_moves : Ca P w K mg base CX0 2 "_law_moves" ["parts", "loss", "state"] spLMoves) (c_law_any_state : Ca P w K mg base CX0 2 "_law_any_state" ["script", "at", "parts"] (spLAny K))
    (c_woven : CaK P w K mg base (L2.CX P w) 7 "woven" 2 ["lag"] ["schedule", "history", "lag"] (spWoven C C2)) (c_law_is_refused : Ca P w K mg base CX0 7 "_law_is_refused" ["schedule", "loss", "state", "deed"] (spLRefused C))
    (c_law_bad : Ca P w K mg base CX0 8 "_law_bad" ["schedule", "loss", "history"] (spLBad C)) :
    FnOk P w K mg base CX0 9 f fd ["script"] (spLaw K) := by
  refine F.ok scLaw (fun vs H Q E h => ?_) (fun cdv A outer s H vs Q E hr h => ?_)
  · obtain ⟨_, rfl, _⟩ := h; rfl
  · obtain ⟨x, rfl, hX, k⟩ := h
    have nd := scLaw.nd
    refine ⟨_, (pss_cons (ps_set (i := 1) nd rfl (by first | exact Or.inl rfl | exact Or.inr rfl) (pe_lst (pa_cons (pe_tup (pa_cons pe_str (pa_cons pe_int pa_nil))) (pa_cons (pe_tup (pa_cons pe_str (pa_cons pe_int pa_nil))) (pa_cons (pe_tup (pa_cons pe_str (pa_cons pe_int pa_nil))) (pa_cons (pe_tup (pa_cons pe_str (pa_cons pe_int (pa_cons pe_int pa_nil)))) (pa_cons (pe_tup (pa_cons pe_str (pa_cons pe_int pa_nil))) (pa_cons (pe_lst (pa_cons pe_str pa_nil)) (pa_cons pe_int (pa_cons (pe_tup (pa_cons pe_str (pa_cons pe_int (pa_cons pe_bl pa_nil)))) pa_nil))))))))))
      (pss_cons (ps_set (i := 1) nd rfl (by first | exact Or.inl rfl | exact Or.inr rfl) (pe_op op_cat (pv 1) (pe_lst (pa_cons (pe_tup (pa_cons pe_str pa_nil)) (pa_cons (pe_tup pa_nil) pa_nil)))))
      (pss_cons (ps_for PassesOwn.never rfl (pi_range1 (by rfl) T.n_range (pa_cons pe_int pa_nil)) (pg_name (i := 2) nd rfl (by first | exact Or.inl rfl | exact Or.inr rfl)) (pss_cons (ps_par (i := 3) (j := 4) rfl nd rfl rfl (by decide) rfl rfl (pa_cons (pe_op op_mod (pe_callTy call_int1 (by rfl) T.n_int PySem.Pv.boot_int (pa_cons (pe_ca c_law_number (hr.mono (by decide)) (by rfl) pass0 (pa_cons (pv 0) (pa_cons (pe_op op_mul pe_int (pv 2)) pa_nil))) pa_nil)) pe_int) (pa_cons (pe_op op_add pe_int (pe_op op_mod (pe_callTy call_int1 (by rfl) T.n_int PySem.Pv.boot_int (pa_cons (pe_ca c_law_number (hr.mono (by decide)) (by rfl) pass0 (pa_cons (pv 0) (pa_cons (pe_op op_add (pe_op op_mul pe_int (pv 2)) pe_int) pa_nil))) pa_nil)) pe_int)) pa_nil)) rfl)
      (pss_cons (ps_set (i := 5) nd rfl (by first | exact Or.inl rfl | exact Or.inr rfl) (pe_ca c_law_parts (hr.mono (by decide)) (by rfl) pass0 (pa_cons (pv 0) (pa_cons (pe_op op_add (pe_op op_mul pe_int (pv 2)) pe_int) (pa_cons pe_int (pa_cons (pv 4) pa_nil))))))
      (pss_cons (ps_par3 (i := 6) (j := 7) (l := 8) rfl nd rfl rfl rfl (by decide) (by decide) (by decide) rfl rfl rfl (pa_cons (pe_ca c_law_made (hr.mono (by decide)) (by rfl) pass0 (pa_cons (pv 5) pa_nil)) (pa_cons (pe_lst pa_nil) (pa_cons (pe_lst pa_nil) pa_nil))) rfl)
      (pss_cons (ps_set (i := 9) nd rfl (by first | exact Or.inl rfl | exact Or.inr rfl) (pe_ca c_first_state (hr.mono (by decide)) (by rfl) pass0 (pa_cons (pv 6) pa_nil)))
      (pss_cons (ps_for PassesOwn.never rfl (pi_range1 (by rfl) T.n_range (pa_cons pe_int pa_nil)) (pg_name (i := 10) nd rfl (by first | exact Or.inl rfl | exact Or.inr rfl)) (pss_cons (ps_if (pt_not (pt_val (pe_ca c_law_state_right (hr.mono (by decide)) (by rfl) pass0 (pa_cons (pv 6) (pa_cons (pv 5) (pa_cons (pv 3) (pa_cons (pv 9) pa_nil))))))) (pss_one (ps_ret pe_bl)) pss_nil)
      (pss_cons (ps_set (i := 11) nd rfl (by first | exact Or.inl rfl | exact Or.inr rfl) (pe_ca c_law_moves (hr.mono (by decide)) (by rfl) pass0 (pa_cons (pv 5) (pa_cons (pv 3) (pa_cons (pv 9) pa_nil)))))
      (pss_cons (ps_asg (pe_ix (kIxL K) (pv 11) (pe_op op_mod (pe_callTy call_int1 (by rfl) T.n_int PySem.Pv.boot_int (pa_cons (pe_ca c_law_number (hr.mono (by decide)) (by rfl) pass0 (pa_cons (pv 0) (pa_cons (pe_op op_add (pe_op op_add (pe_op op_mul pe_int (pv 2)) pe_int) (pv 10)) pa_nil))) pa_nil)) (pe_callB (kLen K) (by rfl) T.n_len PySem.boot_len (pa_cons (pv 11) pa_nil))) (fun _ _ => rfl)) (kTg K (n := 2) rfl rfl (pgs_cons (pg_name (i := 12) nd rfl (by first | exact Or.inl rfl | exact Or.inr rfl)) (pgs_cons (pg_name (i := 9) nd rfl (by first | exact Or.inl rfl | exact Or.inr rfl)) pgs_nil))))
      (pss_cons (ps_expr (pe_bm PySem.F.plainAttrs_list PySem.F.slot_list_append PySem.F.type_list_append mt_append (pv 7) (pa_cons (pv 12) pa_nil)))
      (pss_cons (ps_expr (pe_bm PySem.F.plainAttrs_list PySem.F.slot_list_append PySem.F.type_list_append mt_append (pv 8) (pa_cons (pv 9) pa_nil)))
      (pss_one (ps_if (pt_not (pt_val (pe_ca c_law_state_right (hr.mono (by decide)) (by rfl) pass0 (pa_cons (pv 6) (pa_cons (pv 5) (pa_cons (pv 3) (pa_cons (pe_ca c_law_any_state (hr.mono (by decide)) (by rfl) pass0 (pa_cons (pv 0) (pa_cons (pe_op op_add (pe_op op_add (pe_op op_mul pe_int (pv 2)) pe_int) (pe_op op_mul pe_int (pv 10))) (pa_cons (pv 5) pa_nil)))) pa_nil))))))) (pss_one (ps_ret pe_bl)) pss_nil))))))))
      (pss_cons (ps_if (PW.pt (pw_or (pt_cmpR (kNeD K rfl hr.units) (pe_caK c_woven (hr.mono (by decide)) (by rfl) passL (pa_cons (pv 6) (pa_cons (pv 7) pa_nil)) (pk_cons (pv 3) pk_nil)) (pv 8) (nomark _)) (pw_or1 (pt_cmpR (kNeD K rfl hr.units) (pe_caK c_woven (hr.mono (by decide)) (by rfl) passL (pa_cons (pv 6) (pa_cons (pe_tupleOf (by rfl) T.n_tuple (pe_slice (kSlL K) (pv 7) po_none (po_some pe_int))) pa_nil)) (pk_cons (pv 3) pk_nil)) (pe_slice (kSlL K) (pv 8) po_none (po_some pe_int)) (nomark _))))) (pss_one (ps_ret pe_bl)) pss_nil)
      (pss_cons (ps_set (i := 13) nd rfl (by first | exact Or.inl rfl | exact Or.inr rfl) (pe_callTy call_int1 (by rfl) T.n_int PySem.Pv.boot_int (pa_cons (pe_ca c_law_number (hr.mono (by decide)) (by rfl) pass0 (pa_cons (pv 0) (pa_cons (pe_op op_add (pe_op op_mul pe_int (pv 2)) pe_int) pa_nil))) pa_nil)))
      (pss_cons (ps_par (i := 14) (j := 15) rfl nd rfl rfl (by decide) rfl rfl (pa_cons (pe_ix (kIxL K) (pv 1) (pe_op op_mod (pe_callTy call_int1 (by rfl) T.n_int PySem.Pv.boot_int (pa_cons (pv 13) pa_nil)) pe_int) (fun _ _ => rfl)) (pa_cons (pe_op op_mod (pe_callTy call_int1 (by rfl) T.n_int PySem.Pv.boot_int (pa_cons (pe_op op_fdiv (pv 13) pe_int) pa_nil)) pe_int) pa_nil)) rfl)
      (pss_cons (ps_if (pt_not (pt_val (pe_ca c_law_is_refused (hr.mono (by decide)) (by rfl) pass0 (pa_cons (pv 6) (pa_cons (pv 3) (pa_cons (pv 9) (pa_cons (pv 14) pa_nil))))))) (pss_one (ps_ret pe_bl)) pss_nil)
      (pss_cons (ps_if (PW.pt (pw_or (pt_cmpR op_ne (pe_ca c_law_bad (hr.mono (by decide)) (by rfl) pass0 (pa_cons (pv 6) (pa_cons (pv 3) (pa_cons (pe_op op_cat (pe_slice (kSlL K) (pv 7) po_none (po_some (pv 15))) (pe_lst (pa_cons (pv 14) (pa_cons pe_non pa_nil)))) pa_nil)))) (pv 15) (nomark _)) (pw_or1 (pt_cmpR op_ne (pe_ca c_law_bad (hr.mono (by decide)) (by rfl) pass0 (pa_cons (pv 6) (pa_cons (pv 3) (pa_cons pe_int pa_nil)))) (pe_un un_neg pe_int) (nomark _))))) (pss_one (ps_ret pe_bl)) pss_nil)
      (pss_one (ps_if (PW.pt (pw_or (pt_cmp (pc_notN (pe_ca c_law_bad (hr.mono (by decide)) (by rfl) pass0 (pa_cons (pv 6) (pa_cons (pv 3) (pa_cons (pv 7) pa_nil)))))) (pw_or1 (pt_cmpR (kNeD K rfl hr.units) (pe_ca c_first_state (hr.mono (by decide)) (by rfl) pass0 (pa_cons (pv 6) pa_nil)) (pe_tup (pa_cons pe_int (pa_cons pe_bl (pa_cons pe_non (pa_cons (pe_op op_repE (pe_tup (pa_cons (pe_tup pa_nil) pa_nil)) (pv 4)) pa_nil))))) (nomark _))))) (pss_one (ps_ret pe_bl)) pss_nil)))))))))))))
      (pss_one (ps_ret pe_bl))))), ?_⟩
    -- odd
    refine seq_cut (fun σ' H' => ∃ (q : Addr) (xs : List V), σ' = [some x, some (.ref q), none, none, none, none, none, none, none, none, none, none, none, none, none, none] ∧ Same H H' ∧ H' q = some (.lst xs) ∧ Paired (ThT H') xs odd8) (fun R hR => ?_) ?_
    · refine ⟨by show 2 ≤ sizeLine; decide, fun p1 h1 => ⟨by show 2 ≤ sizeLine; decide, fun p2 h2 => ⟨by show 2 ≤ sizeLine; decide, fun p3 h3 => ⟨by show 3 ≤ sizeLine; decide, fun p4 h4 => ⟨by show 2 ≤ sizeLine; decide, fun p5 h5 => ⟨by show 1 ≤ sizeLine; decide, fun p6 h6 => ⟨by show 3 ≤ sizeLine; decide, fun p8 h8 => ⟨by show 8 ≤ sizeLine; decide, fun q hq => ?_⟩⟩⟩⟩⟩⟩⟩⟩
      refine hR _ _ ⟨q, _, rfl, (((((((Same.new h1).trans (Same.new h2)).trans (Same.new h3)).trans (Same.new h4)).trans (Same.new h5)).trans (Same.new h6)).trans (Same.new h8)).trans (Same.new hq), upd_same, ?_⟩
      refine .cons ⟨p1, rfl, (Same.new hq).at ((Same.new h8).at ((Same.new h6).at ((Same.new h5).at ((Same.new h4).at ((Same.new h3).at ((Same.new h2).at upd_same))))))⟩ ?_
      refine .cons ⟨p2, rfl, (Same.new hq).at ((Same.new h8).at ((Same.new h6).at ((Same.new h5).at ((Same.new h4).at ((Same.new h3).at upd_same)))))⟩ ?_
      refine .cons ⟨p3, rfl, (Same.new hq).at ((Same.new h8).at ((Same.new h6).at ((Same.new h5).at ((Same.new h4).at upd_same))))⟩ ?_
      refine .cons ⟨p4, rfl, (Same.new hq).at ((Same.new h8).at ((Same.new h6).at ((Same.new h5).at upd_same)))⟩ ?_
      refine .cons ⟨p5, rfl, (Same.new hq).at ((Same.new h8).at ((Same.new h6).at upd_same))⟩ ?_
      refine .cons ⟨p6, rfl, (Same.new hq).at ((Same.new h8).at upd_same)⟩ ?_
      refine .cons rfl ?_
      exact .cons ⟨p8, rfl, (Same.new hq).at upd_same⟩ .nil
    rintro σ' H1 ⟨q, xs, rfl, s1, hq, pq⟩
    refine seq_cut (fun σ' H' => ∃ (od : Addr) (xs : List V), σ' = [some x, some (.ref od), none, none, none, none, none, none, none, none, none, none, none, none, none, none] ∧ Same H H' ∧ H' od = some (.lst xs) ∧ Paired (ThT H') xs odd10) (fun R hR => ?_) ?_
    · have l8 : xs.length = 8 := pq.e_len
      refine ⟨_, rfl, by show 1 ≤ sizeLine; decide, fun p9 h9 => ⟨by show 0 ≤ sizeLine; decide, fun p10 h10 => ⟨by show 2 ≤ sizeLine; decide, fun r hr2 => ⟨q, r, _, _, rfl, rfl, ((Same.new hr2).at ((Same.new h10).at ((Same.new h9).at hq))), upd_same, ?_, fun od hod => ?_⟩⟩⟩⟩
      · exact Nat.le_of_lt (small1000 (by rw [l8]; show 8 + 2 ≤ 1000; decide))
      have sx : Same H1 _ := (((Same.new h9).trans (Same.new h10)).trans (Same.new hr2)).trans (Same.new (o := .lst (xs ++ [.ref p9, .ref p10])) hod)
      refine hR _ _ ⟨od, _, rfl, s1.trans sx, upd_same, ?_⟩
      refine Paired.e_app (L2.Paired.mapP pq fun v t ht => thT_same sx ht) (.cons ⟨p9, rfl, (Same.new hod).at ((Same.new hr2).at ((Same.new h10).at upd_same))⟩ (.cons ⟨p10, rfl, (Same.new hod).at ((Same.new hr2).at upd_same)⟩ .nil))
    rintro σ' H0 ⟨od, ox, rfl, s0, hod, pod⟩
    have hX0 := scr_same s0 hX
    -- the turns
    refine seq_cut (fun σ' H' => True) (fun R hR => ?_) (fun σ' H' _ => k H')
    refine ⟨3, rfl, by decide, by decide, for_range (fun i σ' H' => ∃ v2 v3 v4 v5 v6 v7 v8 v9 v10 v11 v12 v13 v14 v15 : Option V, σ' = [some x, some (.ref od), v2, v3, v4, v5, v6, v7, v8, v9, v10, v11, v12, v13, v14, v15] ∧ Same H0 H')
      ⟨none, none, none, none, none, none, none, none, none, none, none, none, none, none, rfl, Same.refl _⟩ ?_ (fun σ' H' _ => hR _ _ trivial)⟩
    rintro i σ' H1 hi ⟨v2, v3, v4, v5, v6, v7, v8, v9, v10, v11, v12, v13, v14, v15, rfl, s1⟩
    rw [Int.zero_add]
    -- loss, many
    refine seq_cut (fun σ' H' => ∃ l m : Nat, l ≤ 3 ∧ (m = 1 ∨ m = 2) ∧ σ' = [some x, some (.ref od), some (.int (i : Nat)), some (.int l), some (.int m), v5, v6, v7, v8, v9, v10, v11, v12, v13, v14, v15] ∧ Same H0 H') (fun R hR => ?_) ?_
    · refine ⟨_, rfl, _, rfl, _, _, rfl, rfl, .inl ⟨by decide, by decide⟩, x, 60 * i, rfl, scr_same s1 hX0, fun H2 n1 s2 => .inl ⟨_, rfl, _, _, rfl, rfl, (by show (0 : Int) < _; decide), _, rfl, _, rfl, _, _, rfl, rfl, .inl ⟨by decide, by decide⟩, _, _, rfl, rfl, x, 60 * i + 1, rfl, scr_same (s1.trans s2) hX0, fun H3 n2 s3 => .inl ⟨_, rfl, _, _, rfl, rfl, (by show (0 : Int) < _; decide), _, _, rfl, rfl, _, _, rfl, ?_⟩⟩⟩
      have a0 : 0 ≤ n1 % 4 := Int.emod_nonneg _ (by decide)
      have a1 : n1 % 4 < 4 := Int.emod_lt_of_pos _ (by decide)
      have b0 : 0 ≤ n2 % 2 := Int.emod_nonneg _ (by decide)
      have b1 : n2 % 2 < 2 := Int.emod_lt_of_pos _ (by decide)
      refine hR _ _ ⟨(n1 % 4).toNat, (1 + n2 % 2).toNat, by omega, by omega, ?_, (s1.trans s2).trans s3⟩
      rw [Int.toNat_of_nonneg a0, Int.toNat_of_nonneg (show 0 ≤ 1 + n2 % 2 by omega)]
      rfl
    rintro σ' H3 ⟨l, m, l3, hm, rfl, s3⟩
    have hX3 := scr_same s3 hX0
    -- parts
    refine ⟨_, rfl, _, rfl, _, _, rfl, rfl, .inl ⟨by decide, by decide⟩, _, _, rfl, rfl, _, rfl, x, 60 * i + 2, m, rfl, hX3, hm, fun H4 u S s4 hP okS hlm => ?_⟩
    dsimp only
    -- schedule, history, states
    refine ⟨_, rfl, u, S, rfl, hP, okS, fun H5 sc s5 hS => ⟨by show 0 ≤ sizeLine; decide, fun hl hhl => ⟨by show 0 ≤ sizeLine; decide, fun sl hsl => ⟨_, _, _, rfl, ?_⟩⟩⟩⟩
    have hP5 := mono_parts.go (Keep.of s5) hP
    have s05 := (s3.trans s4).trans s5
    have hX5 := scr_same s05 hX0
    have hsl0 : H5 sl = none := same_none (Same.new hhl) hsl
    have nsh : hl ≠ sl := fun e => by subst e; rw [upd_same] at hsl; cases hsl
    have s6 : Same H5 (upd (upd H5 hl (.lst [])) sl (.lst [])) := (Same.new hhl).own hsl0
    have c1 : (upd (upd H5 hl (.lst [])) sl (.lst [])) hl = some (.lst []) := (upd_ne nsh).trans upd_same
    have c2 : (upd (upd H5 hl (.lst [])) sl (.lst [])) sl = some (.lst []) := upd_same
    generalize hH6 : upd (upd H5 hl (.lst [])) sl (.lst []) = H6 at s6 c1 c2
    dsimp only
    -- state
    refine ⟨_, rfl, sc, S, rfl, sch_keep (Keep.of s6) hS, okS, fun H7 st0 s7 hst0 => ?_⟩
    dsimp only
    -- the steps
    refine seq_cut (fun σ' H' => ∃ (v10 v11 v12 v13 v14 v15 : Option V) (stv : V) (ds ss : List V) (hs : List Deed) (sts : List Sta) (s : Sta), σ' = [some x, some (.ref od), some (.int (i : Nat)), some (.int l), some (.int m), some u, some sc, some (.ref hl), some (.ref sl), some stv, v10, v11, v12, v13, v14, v15] ∧ Same H5 H' ∧
      H' hl = some (.lst ds) ∧ H' sl = some (.lst ss) ∧ Paired (DeedT H') ds hs ∧ Paired (StaT H') ss sts ∧ Hist S l hs sts ∧ sts.length = 10 ∧ (firstM S :: sts)[10]? = some s ∧ StaT H' stv s) (fun R hR => ?_) ?_
    · refine ⟨10, rfl, by decide, by decide, for_range (fun j σ' H' => ∃ (v10 v11 v12 v13 v14 v15 : Option V) (stv : V) (ds ss : List V) (hs : List Deed) (sts : List Sta) (s : Sta), σ' = [some x, some (.ref od), some (.int (i : Nat)), some (.int l), some (.int m), some u, some sc, some (.ref hl), some (.ref sl), some stv, v10, v11, v12, v13, v14, v15] ∧ Same H5 H' ∧
        H' hl = some (.lst ds) ∧ H' sl = some (.lst ss) ∧ Paired (DeedT H') ds hs ∧ Paired (StaT H') ss sts ∧ Hist S l hs sts ∧ sts.length = j ∧ (firstM S :: sts)[j]? = some s ∧ StaT H' stv s)
        ⟨v10, v11, v12, v13, v14, v15, st0, [], [], [], [], firstM S, rfl, s6.trans s7, s7.at c1, s7.at c2, .nil, .nil, Hist.nil S l, rfl, rfl, hst0⟩ ?_ (fun σ' H' h => hR _ _ h)⟩
      rintro j σ' H8 hj ⟨v10, v11, v12, v13, v14, v15, stv, ds, ss, hs, sts, s, rfl, s8, hhl8, hsl8, pd, ps, hh, lj, hcur, hst⟩
      have hj10 : j < 10 := hj
      rw [Int.zero_add]
      have oks := hh.ok s (List.mem_of_getElem? hcur)
      refine ⟨_, rfl, _, rfl, _, rfl, _, rfl, sc, u, stv, S, s, l, rfl, sch_keep (Keep.of s8) hS, mono_parts.go (Keep.of s8) hP5, okS, by omega, hst, oks, fun H9 s9 => ⟨true, rfl, ifF rfl ?_⟩⟩
      have s89 := s8.trans s9
      -- rows
      refine ⟨_, rfl, _, rfl, _, rfl, u, stv, S, s, l, rfl, mono_parts.go (Keep.of s89) hP5, okS, mono_sta.go (Keep.of s9) hst, oks, fun H10 u10 s10 ⟨rb, rx, e, hrb, prb⟩ => ?_⟩
      subst e
      dsimp only
      have lrx := prb.e_len
      have lr0 := rows_ne S okS l s
      -- deed, state
      refine ⟨_, rfl, _, rfl, _, rfl, _, _, rfl, rfl, .inl ⟨by decide, by decide⟩, _, _, rfl, rfl, _, rfl, _, _, rfl, rfl, x, 60 * i + 20 + j, rfl, scr_same (s89.trans s10) hX5, fun H11 n s11 => .inl ⟨_, rfl, _, rfl, rb, _, rfl, .inl (.of (s11.at hrb)), _, _, rfl, rfl, (by show (0 : Int) < ((rx.length : Nat) : Int); omega), ?_⟩⟩
      have z0 : 0 ≤ n % ((rx.length : Nat) : Int) := Int.emod_nonneg _ (by omega)
      have z1 : n % ((rx.length : Nat) : Int) < ((rx.length : Nat) : Int) := Int.emod_lt_of_pos _ (by omega)
      obtain ⟨zn, hzn⟩ : ∃ zn : Nat, n % ((rx.length : Nat) : Int) = zn := ⟨(n % ((rx.length : Nat) : Int)).toNat, by omega⟩
      obtain ⟨rv, hrv⟩ : ∃ rv, rx[zn]? = some rv := ⟨rx[zn]'(by omega), by simp⟩
      obtain ⟨⟨d, s'⟩, hrow, c, zd, zs, rfl, hc, dd, dst⟩ := prb.e_at hrv
      have hmem := List.mem_of_getElem? hrow
      have s10' := s10.trans s11
      refine ⟨rb, _, _, _, rfl, rfl, .of (s11.at hrb), at_of hzn hrv, c, _, rfl, .of (s11.at hc), rfl, _, _, rfl, _, _, rfl, rfl, ?_⟩
      dsimp only
      have s9' := s9.trans s10'
      have s8' := s8.trans s9'
      -- append
      have lds : ds.length ≤ 10 := by rw [pd.e_len, hh.len]; omega
      have lss : ss.length ≤ 10 := by rw [ps.e_len]; omega
      refine ⟨_, rfl, .inl ⟨rfl, _, .of (s9'.at hhl8)⟩, _, rfl, hl, ds, zd, rfl, rfl, s9'.at hhl8, small1000 (by omega), ?_⟩
      have k12 : Keep H11 (upd H11 hl (.lst (ds ++ [zd]))) := Keep.lst (s9'.at hhl8)
      have s12 : Same H5 (upd H11 hl (.lst (ds ++ [zd]))) := s8'.own hhl
      have hsl12 : (upd H11 hl (.lst (ds ++ [zd]))) sl = some (.lst ss) := (upd_ne nsh.symm).trans (s9'.at hsl8)
      refine ⟨_, rfl, .inl ⟨rfl, _, .of hsl12⟩, _, rfl, sl, ss, zs, rfl, rfl, hsl12, small1000 (by omega), ?_⟩
      have k13 : Keep H11 (upd (upd H11 hl (.lst (ds ++ [zd]))) sl (.lst (ss ++ [zs]))) := k12.trans (Keep.lst hsl12)
      have s13 : Same H5 (upd (upd H11 hl (.lst (ds ++ [zd]))) sl (.lst (ss ++ [zs]))) := s12.own hsl0
      have hhl13 : (upd (upd H11 hl (.lst (ds ++ [zd]))) sl (.lst (ss ++ [zs]))) hl = some (.lst (ds ++ [zd])) := (upd_ne nsh).trans upd_same
      have hsl13 : (upd (upd H11 hl (.lst (ds ++ [zd]))) sl (.lst (ss ++ [zs]))) sl = some (.lst (ss ++ [zs])) := upd_same
      have pd13 := (mono_paired mono_deed ((Keep.of s9').trans k13) pd).e_snoc (mono_deed.go ((Keep.of s11).trans k13) dd)
      have ps13 := (mono_paired mono_sta ((Keep.of s9').trans k13) ps).e_snoc (mono_sta.go ((Keep.of s11).trans k13) dst)
      have st13 := mono_sta.go ((Keep.of s11).trans k13) dst
      generalize upd (upd H11 hl (.lst (ds ++ [zd]))) sl (.lst (ss ++ [zs])) = H13 at k13 s13 hhl13 hsl13 pd13 ps13 st13
      dsimp only
      -- any state
      refine ⟨_, rfl, _, rfl, _, rfl, _, rfl, _, rfl, _, _, rfl, rfl, .inl ⟨by decide, by decide⟩, _, _, rfl, rfl, _, rfl, _, _, rfl, rfl, .inl ⟨by decide, by decide⟩, _, _, rfl, rfl, _, rfl, x, u, 60 * i + 30 + 2 * j, S, rfl, scr_same s13 hX5, mono_parts.go (Keep.of s13) hP5, okS, fun H14 u14 st14 s14 h14 ok14 => ?_⟩
      refine ⟨sc, u, u14, S, st14, l, rfl, sch_keep (Keep.of (s13.trans s14)) hS, mono_parts.go (Keep.of (s13.trans s14)) hP5, okS, by omega, h14, ok14, fun H15 s15 => ⟨true, rfl, ifF rfl ?_⟩⟩
      have s1315 := s14.trans s15
      rw [← lj] at hcur
      exact ⟨_, _, _, _, _, _, zs, ds ++ [zd], ss ++ [zs], hs ++ [d], sts ++ [s'], s', rfl, s13.trans s1315, s1315.at hhl13, s1315.at hsl13, mono_paired mono_deed (Keep.of s1315) pd13, mono_paired mono_sta (Keep.of s1315) ps13, hh.snoc okS hcur hmem, by rw [List.length_append, lj]; rfl,
        by rw [List.getElem?_cons_succ, ← lj, List.getElem?_concat_length], mono_sta.go (Keep.of s1315) st13⟩
    rintro σ' H8 ⟨v10, v11, v12, v13, v14, v15, stv, ds, ss, hs, sts, s, rfl, s8, hhl8, hsl8, pd, ps, hh, l10, hcur, hst⟩
    have oks := hh.ok s (List.mem_of_getElem? hcur)
    have lh10 : hs.length = 10 := hh.len.trans l10
    have ld10 : ds.length = 10 := pd.e_len.trans lh10
    have ls10 : ss.length = 10 := ps.e_len.trans l10
    have chAll := hh.chain 10 []
    rw [List.append_nil, List.take_of_length_le (by omega), List.take_of_length_le (by omega)] at chAll
    have allHis : ∀ H', Same H8 H' → HisT H' (.ref hl) (hs.map Deed.th) := fun H' sx => his_of (.inl (sx.at hhl8)) (mono_paired mono_deed (Keep.of sx) pd)
    have lmap : sts.length = (hs.map Deed.th).length := by rw [List.length_map, hh.len]
    have l16 : (hs.map Deed.th).length < 16 := by rw [List.length_map]; omega
    -- woven
    refine ⟨_, rfl, _, rfl, _, rfl, rfl, rfl, sc, .ref hl, S, l, rfl, sch_keep (Keep.of s8) hS, okS, by omega, .inl ⟨hs.map Deed.th, sts, allHis _ (Same.refl _), hist_ths hs, l16, hh.ok, chAll, .inl ⟨lmap, fun H9 u9 s9 hu9 => ?_⟩⟩⟩
    refine ⟨_, rfl, .list (sts.map dSta), .list (sts.map dSta), dp_list (fun _ _ q => dp_sta q) hu9, dp_list (R := StaT) (fun _ _ q => dp_sta q) ⟨sl, ss, rfl, s9.at hsl8, mono_paired mono_sta (Keep.of s9) ps⟩, (shp_list shp_sta _).go, (shp_list shp_sta _).go, _, rfl, ifF (by rw [eqv_self (shp_list shp_sta _).go]; rfl) ?_⟩
    -- woven of four
    refine ⟨_, rfl, _, rfl, noP ⟨4, rfl, hl, ds, rfl, .of (s9.at hhl8), fun q1 hq1 => .inl ⟨q1, _, rfl, .of upd_same, fun q2 hq2 => ?_⟩⟩⟩
    have s11 : Same H8 _ := (s9.trans (Same.new hq1)).trans (Same.new (o := .tup (cutV ds none (some 4))) hq2)
    have hq2' : (upd (upd H9 q1 (.lst (cutV ds none (some 4)))) q2 (.tup (cutV ds none (some 4)))) q2 = some (.tup (ds.take 4)) := by
      refine upd_same.trans ?_
      rw [show (some (4 : Int)) = some ((4 : Nat) : Int) from rfl, cut_hi]
    generalize upd (upd H9 q1 (.lst (cutV ds none (some 4)))) q2 (.tup (cutV ds none (some 4))) = H11 at s11 hq2'
    have ch4 := hh.chain 4 []
    rw [List.append_nil] at ch4
    refine ⟨_, rfl, rfl, rfl, sc, .ref q2, S, l, rfl, sch_keep (Keep.of (s8.trans s11)) hS, okS, by omega, .inl ⟨(hs.take 4).map Deed.th, sts.take 4, his_of (.inr hq2') (mono_paired mono_deed (Keep.of s11) pd |>.e_take 4), hist_ths _, ?_, hh.oks 4, ch4, .inl ⟨?_, fun H12 u12 s12 hu12 => ?_⟩⟩⟩
    · rw [List.length_map, List.length_take]; omega
    · rw [List.length_map, List.length_take, List.length_take]; omega
    have s812 := s11.trans s12
    refine ⟨_, rfl, noP ⟨4, rfl, sl, ss, rfl, .of (s812.at hsl8), fun q3 hq3 => ?_⟩⟩
    have hq3' : (upd H12 q3 (.lst (cutV ss none (some 4)))) q3 = some (.lst (ss.take 4)) := by
      refine upd_same.trans ?_
      rw [show (some (4 : Int)) = some ((4 : Nat) : Int) from rfl, cut_hi]
    have s13 : Same H12 (upd H12 q3 (.lst (cutV ss none (some 4)))) := Same.new hq3
    generalize upd H12 q3 (.lst (cutV ss none (some 4))) = H13 at s13 hq3'
    have hu13 : LstOf StaT H13 u12 (sts.take 4) := by
      obtain ⟨b, qs, e, hb, pb⟩ := hu12
      exact ⟨b, qs, e, s13.at hb, mono_paired mono_sta (Keep.of s13) pb⟩
    have s813 := s812.trans s13
    refine ⟨.list ((sts.take 4).map dSta), .list ((sts.take 4).map dSta), dp_list (fun _ _ q => dp_sta q) hu13, dp_list (R := StaT) (fun _ _ q => dp_sta q) ⟨q3, ss.take 4, rfl, hq3', (mono_paired mono_sta (Keep.of s813) ps).e_take 4⟩, (shp_list shp_sta _).go, (shp_list shp_sta _).go, _, rfl, ifF (by rw [eqv_self (shp_list shp_sta _).go]; rfl) ?_⟩
    -- seed
    refine ⟨_, rfl, _, rfl, _, _, rfl, rfl, .inl ⟨by decide, by decide⟩, _, _, rfl, rfl, x, 60 * i + 55, rfl, scr_same (s8.trans s813) hX5, fun H14 sd s14 => .inl ⟨_, rfl, ?_⟩⟩
    dsimp only
    have s814 := s813.trans s14
    have s514 := s8.trans s814
    have s014 := s05.trans s514
    -- thing, spot
    refine seq_cut (fun σ' H' => ∃ (tv : V) (t : Th) (sp : Nat), σ' = [some x, some (.ref od), some (.int (i : Nat)), some (.int l), some (.int m), some u, some sc, some (.ref hl), some (.ref sl), some stv, v10, v11, v12, some (.int sd), some tv, some (.int sp)] ∧ H14 = H' ∧ ThT H14 tv t ∧ t ∈ odd10 ∧ sp < 10) (fun R hR => ?_) ?_
    · have z0 : 0 ≤ sd % 10 := Int.emod_nonneg _ (by decide)
      have z1 : sd % 10 < 10 := Int.emod_lt_of_pos _ (by decide)
      have y0 : 0 ≤ sd / 10 % 10 := Int.emod_nonneg _ (by decide)
      have y1 : sd / 10 % 10 < 10 := Int.emod_lt_of_pos _ (by decide)
      obtain ⟨zn, hzn⟩ : ∃ zn : Nat, sd % 10 = zn := ⟨(sd % 10).toNat, by omega⟩
      have lox : ox.length = 10 := pod.e_len
      obtain ⟨tv, htv⟩ : ∃ tv, ox[zn]? = some tv := ⟨ox[zn]'(by omega), by simp⟩
      obtain ⟨t, ht, rt⟩ := pod.e_at htv
      refine ⟨_, rfl, _, rfl, .inl ⟨_, rfl, _, _, rfl, rfl, (by show (0 : Int) < _; decide), od, _, _, _, rfl, rfl, .of (s014.at hod), at_of hzn htv, _, rfl, _, _, rfl, rfl, ⟨by decide, by decide⟩, .inl ⟨_, rfl, _, _, rfl, rfl, (by show (0 : Int) < _; decide), _, _, rfl, hR _ _ ⟨tv, t, (sd / 10 % 10).toNat, ?_, rfl, thT_same s014 rt, List.mem_of_getElem? ht, by omega⟩⟩⟩⟩
      rw [Int.toNat_of_nonneg y0]; rfl
    rintro σ' H14' ⟨tv, t, sp, rfl, rfl, htv, htm, hsp⟩
    -- refused
    refine ⟨_, rfl, _, rfl, _, rfl, _, rfl, sc, stv, tv, S, s, l, t, rfl, sch_keep (Keep.of s514) hS, okS, mono_sta.go (Keep.of s814) hst, oks, by omega, htv, odd_ok t htm, odd_none okS t htm, fun H15 s15 => ⟨true, rfl, ifF rfl ?_⟩⟩
    have s815 := s814.trans s15
    have s515 := s8.trans s815
    -- bad
    refine ⟨_, rfl, _, rfl, _, rfl, noP ⟨_, rfl, sp, rfl, hl, ds, rfl, .of (s815.at hhl8), fun q1 hq1 => ⟨_, rfl, by show 2 ≤ sizeLine; decide, fun q2 hq2 => ⟨q1, q2, _, _, rfl, rfl, (Same.new hq2).at upd_same, upd_same, ?_, fun q3 hq3 => ?_⟩⟩⟩⟩
    · rw [cut_hi, List.length_take]; exact Nat.le_of_lt (small1000 (by show _ + 2 ≤ 1000; omega))
    have s16 : Same H15 _ := ((Same.new hq1).trans (Same.new hq2)).trans (Same.new (o := .lst (cutV ds none (some (sp : Int)) ++ [tv, .non])) hq3)
    have hq3' : (upd (upd (upd H15 q1 (.lst (cutV ds none (some (sp : Int))))) q2 (.lst [tv, .non])) q3 (.lst (cutV ds none (some (sp : Int)) ++ [tv, .non]))) q3 = some (.lst (ds.take sp ++ [tv, .non])) := by
      refine upd_same.trans ?_
      rw [cut_hi]
    generalize upd (upd (upd H15 q1 (.lst (cutV ds none (some (sp : Int))))) q2 (.lst [tv, .non])) q3 (.lst (cutV ds none (some (sp : Int)) ++ [tv, .non])) = H16 at s16 hq3'
    have s816 := s815.trans s16
    have s516 := s8.trans s816
    have hisB : HisT H16 (.ref q3) ((hs.take sp).map Deed.th ++ [t, .non]) :=
      ⟨q3, _, rfl, .inl hq3', (paired_map (fun _ _ q => thT_deed q) ((mono_paired mono_deed (Keep.of s816) pd).e_take sp)).e_app (.cons (thT_same (s15.trans s16) htv) (.cons rfl .nil))⟩
    have lsp : (sts.take sp).length = sp := by rw [List.length_take]; omega
    obtain ⟨sb, hsb⟩ : ∃ sb, (firstM S :: sts.take sp)[sp]? = some sb := ⟨(firstM S :: sts.take sp)[sp]'(by simp; omega), by simp⟩
    refine ⟨sc, .ref q3, S, l, rfl, sch_keep (Keep.of s516) hS, okS, by omega, .inl ⟨_, sts.take sp, hisB, ?_, ?_, hh.oks sp, hh.chain sp _, .inr ⟨t, sb, ?_, by rw [lsp]; exact hsb, odd_none okS t htm, fun H17 s17 => ?_⟩⟩⟩
    · intro z hz
      rcases List.mem_append.mp hz with q | q
      · exact hist_ths _ z q
      · rcases List.mem_cons.mp q with q | q
        · rw [q]; exact odd_ok t htm
        · rw [List.mem_singleton.mp q]; trivial
    · rw [List.length_append, List.length_map, List.length_take]; show _ + 2 < 16; omega
    · rw [lsp, List.getElem?_append_right (by rw [List.length_map, List.length_take]; omega), List.length_map, List.length_take, show sp - min sp hs.length = 0 by omega]
      rfl
    refine ⟨_, rfl, rfl, _, rfl, ifF ?_ ?_⟩
    · rw [lsp]; simp
    have s517 := s516.trans s17
    -- bad of 5
    refine ⟨_, rfl, _, rfl, sc, .int 5, S, l, rfl, sch_keep (Keep.of s517) hS, okS, by omega, .inr ⟨5, rfl, fun H18 s18 => ⟨_, rfl, rfl, _, rfl, ifF (by decide) ?_⟩⟩⟩
    have s518 := s517.trans s18
    have s818 := (s816.trans s17).trans s18
    -- bad of the history
    refine ⟨_, rfl, _, rfl, _, rfl, sc, .ref hl, S, l, rfl, sch_keep (Keep.of s518) hS, okS, by omega, .inl ⟨hs.map Deed.th, sts, allHis _ s818, hist_ths hs, l16, hh.ok, chAll, .inl ⟨lmap, fun H19 s19 => ⟨_, rfl, ifF rfl ?_⟩⟩⟩⟩
    have s519 := s518.trans s19
    -- the first state
    refine ⟨_, rfl, sc, S, rfl, sch_keep (Keep.of s519) hS, okS, fun H20 u20 s20 hu20 => ?_⟩
    refine ⟨by show 0 ≤ sizeLine; decide, fun e1 he1 => ⟨by show 1 ≤ sizeLine; decide, fun e2 he2 => ?_⟩⟩
    have s21 := (Same.new (o := .tup []) he1).trans (Same.new (o := .tup [.ref e1]) he2)
    refine ⟨_, rfl, e2, m, [.ref e1], rfl, rfl, upd_same, by simp, by rcases hm with q | q <;> omega, by rcases hm with q | q <;> omega, (by show 1 ≤ 1000; decide), fun e3 H21 s22 h22 => ⟨by show 4 ≤ sizeLine; decide, fun e4 he4 => ?_⟩⟩
    have hpe : IntsT (upd H21 e4 (.tup [.int 0, .bl false, .non, .ref e3])) (.ref e1) [] := ⟨e1, rfl, (Same.new he4).at (s22.at ((Same.new he2).at upd_same))⟩
    have hrep : (List.replicate m [V.ref e1]).flatten = List.replicate m (.ref e1) := List.flatten_replicate_singleton
    have hfst : StaT (upd H21 e4 (.tup [.int 0, .bl false, .non, .ref e3])) (.ref e4) (firstM S) := by
      refine ⟨e4, .ref e3, rfl, upd_same, ⟨e3, _, rfl, (Same.new he4).at h22, ?_⟩⟩
      rw [hrep]
      show Paired _ _ (List.replicate S.first.length [])
      rw [hlm]
      exact paired_rep hpe m
    have s20' : Same H20 (upd H21 e4 (.tup [.int 0, .bl false, .non, .ref e3])) := (s21.trans s22).trans (Same.new he4)
    refine ⟨dSta (firstM S), dSta (firstM S), dp_sta (mono_sta.go (Keep.of s20') hu20), dp_sta hfst, (shp_sta _).go, (shp_sta _).go, _, rfl, ifF (by rw [eqv_self (shp_sta _).go]; rfl) ?_⟩
    exact ⟨_, _, _, _, _, _, _, _, _, _, _, _, _, _, rfl, s05.trans ((s519.trans s20).trans s20')⟩
end
end EL

set_option maxHeartbeats 16000000
namespace EL
open PySem PySem.Spec PyProof.Rows L2
theorem kbn_of {K : PySem.W.Frag} {x qual : Str} {st : Stmt} {f : Addr} {fd : FuncData} {ps ks : List Str} {n : Nat} (F : Fun K x qual st f fd)
    (h : ∀ (kV doc pm : Value) (an : Option Addr) (cdv ct : Value) (us ws : List Value), us.length = n → ws.length = ks.length → bindArgs (PySem.W.fnOf x qual (defArgs st) (defBody st) (defScope st) .none kV doc pm an cdv ct) ⟨us, ks.zip ws⟩ = pure (ps.zip (us ++ ws))) :
    KBn K fd ps n ks (fun us ws => us ++ ws) (fun vs zs => vs ++ zs) := by
  obtain ⟨oc, od, kV, doc, pm, an, cdv, ct, osl, rfl, lk, hcd⟩ := F.ex
  exact ⟨fun s us ws _ h1 h2 => .of_eq (h kV doc pm an cdv ct us ws h1 h2), fun r1 r2 => r1.append r2⟩
theorem xbinds {K : PySem.W.Frag} {T cda cc : Addr} {oc : Value} {od an : Option Addr} {n : Nat} {sl : Array (Option Value)} {kV doc pm ct : Value} (lT : K.lookup T = some ⟨oc, od, .seq #[.none] n, sl⟩) :
    Binds K (PySem.W.ksFn "__init__" "BadDeeds.__init__" (defArgs sXInit) (defBody sXInit) xSc (.ref T) kV doc pm an (.ref cda) ct cc) ["self", "index"] [] := fun s us X hl => by
  rw [List.append_nil] at hl ⊢
  match us, hl with
  | [a, b], _ =>
    refine BindsTo.of_looks fun M => ?_
    obtain ⟨k, e1, e2⟩ : ∃ k, bindArgs (PySem.W.ksFn "__init__" "BadDeeds.__init__" (defArgs sXInit) (defBody sXInit) xSc (.ref T) kV doc pm an (.ref cda) ct cc) ⟨[a, b], []⟩ = seqItems? (.ref T) >>= k ∧ k (some #[.none]) = pure ((["self", "index"] : List Str).zip [a, b]) := ⟨_, rfl, rfl⟩
    rw [e1]
    exact looks_items X lT rfl (.of_pure e2)
theorem all_mk {P : Program} {w : World} {K : PySem.W.Frag} {h : Heap} {mg : Str → Option Value} {fa : Addr} {f_0 : Addr} {od_0 an_0 : Option Addr} {sl_0 : Array (Option Value)} {oc_0 kV_0 dc_0 pm_0 cd_0 ct_0 : Value}
    {f_1 : Addr} {od_1 an_1 : Option Addr} {sl_1 : Array (Option Value)} {oc_1 kV_1 dc_1 pm_1 cd_1 ct_1 : Value}
    {f_2 : Addr} {od_2 an_2 : Option Addr} {sl_2 : Array (Option Value)} {oc_2 kV_2 dc_2 pm_2 cd_2 ct_2 : Value}
    {f_3 : Addr} {od_3 an_3 : Option Addr} {sl_3 : Array (Option Value)} {oc_3 kV_3 dc_3 pm_3 cd_3 ct_3 : Value}
    {f_4 : Addr} {od_4 an_4 : Option Addr} {sl_4 : Array (Option Value)} {oc_4 kV_4 dc_4 pm_4 cd_4 ct_4 : Value}
    {f_5 : Addr} {od_5 an_5 : Option Addr} {sl_5 : Array (Option Value)} {oc_5 kV_5 dc_5 pm_5 cd_5 ct_5 : Value}
    {f_6 : Addr} {od_6 an_6 : Option Addr} {sl_6 : Array (Option Value)} {oc_6 kV_6 dc_6 pm_6 cd_6 ct_6 : Value}
    {f_7 : Addr} {od_7 an_7 : Option Addr} {sl_7 : Array (Option Value)} {oc_7 kV_7 dc_7 pm_7 cd_7 ct_7 : Value}
    {f_8 : Addr} {od_8 an_8 : Option Addr} {sl_8 : Array (Option Value)} {oc_8 kV_8 dc_8 pm_8 cd_8 ct_8 : Value}
    {f_9 : Addr} {od_9 an_9 : Option Addr} {sl_9 : Array (Option Value)} {oc_9 kV_9 dc_9 pm_9 cd_9 ct_9 : Value}
    {f_10 : Addr} {od_10 an_10 : Option Addr} {sl_10 : Array (Option Value)} {oc_10 kV_10 dc_10 pm_10 cd_10 ct_10 : Value}
    {f_11 : Addr} {od_11 an_11 : Option Addr} {sl_11 : Array (Option Value)} {oc_11 kV_11 dc_11 pm_11 cd_11 ct_11 : Value}
    {f_12 : Addr} {od_12 an_12 : Option Addr} {sl_12 : Array (Option Value)} {oc_12 kV_12 dc_12 pm_12 cd_12 ct_12 : Value}
    {f_13 : Addr} {od_13 an_13 : Option Addr} {sl_13 : Array (Option Value)} {oc_13 kV_13 dc_13 pm_13 cd_13 ct_13 : Value}
    {f_14 : Addr} {od_14 an_14 : Option Addr} {sl_14 : Array (Option Value)} {oc_14 kV_14 dc_14 pm_14 cd_14 ct_14 : Value}
    {f_15 : Addr} {od_15 an_15 : Option Addr} {sl_15 : Array (Option Value)} {oc_15 kV_15 dc_15 pm_15 cd_15 ct_15 : Value}
    {f_16 : Addr} {od_16 an_16 : Option Addr} {sl_16 : Array (Option Value)} {oc_16 kV_16 dc_16 pm_16 cd_16 ct_16 : Value}
    {f_17 : Addr} {od_17 an_17 : Option Addr} {sl_17 : Array (Option Value)} {oc_17 kV_17 dc_17 pm_17 cd_17 ct_17 : Value}
    {f_18 : Addr} {od_18 an_18 : Option Addr} {sl_18 : Array (Option Value)} {oc_18 kV_18 dc_18 pm_18 cd_18 ct_18 : Value}
    {f_19 : Addr} {od_19 an_19 : Option Addr} {sl_19 : Array (Option Value)} {oc_19 kV_19 dc_19 pm_19 cd_19 ct_19 : Value}
    {f_20 : Addr} {od_20 an_20 : Option Addr} {sl_20 : Array (Option Value)} {oc_20 kV_20 dc_20 pm_20 cd_20 ct_20 : Value}
    {f_21 : Addr} {od_21 an_21 : Option Addr} {sl_21 : Array (Option Value)} {oc_21 kV_21 dc_21 pm_21 cd_21 ct_21 : Value}
    {f_22 : Addr} {od_22 an_22 : Option Addr} {sl_22 : Array (Option Value)} {oc_22 kV_22 dc_22 pm_22 cd_22 ct_22 : Value}
    {f_23 : Addr} {od_23 an_23 : Option Addr} {sl_23 : Array (Option Value)} {oc_23 kV_23 dc_23 pm_23 cd_23 ct_23 : Value}
    {f_24 : Addr} {od_24 an_24 : Option Addr} {sl_24 : Array (Option Value)} {oc_24 kV_24 dc_24 pm_24 cd_24 ct_24 : Value}
    {f_25 : Addr} {od_25 an_25 : Option Addr} {sl_25 : Array (Option Value)} {oc_25 kV_25 dc_25 pm_25 cd_25 ct_25 : Value}
    {f_26 : Addr} {od_26 an_26 : Option Addr} {sl_26 : Array (Option Value)} {oc_26 kV_26 dc_26 pm_26 cd_26 ct_26 : Value}
    {f_27 : Addr} {od_27 an_27 : Option Addr} {sl_27 : Array (Option Value)} {oc_27 kV_27 dc_27 pm_27 cd_27 ct_27 : Value}
    {f_28 : Addr} {od_28 an_28 : Option Addr} {sl_28 : Array (Option Value)} {oc_28 kV_28 dc_28 pm_28 cd_28 ct_28 : Value}
    {f_29 : Addr} {od_29 an_29 : Option Addr} {sl_29 : Array (Option Value)} {oc_29 kV_29 dc_29 pm_29 cd_29 ct_29 : Value}
    {f_30 : Addr} {od_30 an_30 : Option Addr} {sl_30 : Array (Option Value)} {oc_30 kV_30 dc_30 pm_30 cd_30 ct_30 : Value}
    {f_31 : Addr} {od_31 an_31 : Option Addr} {sl_31 : Array (Option Value)} {oc_31 kV_31 dc_31 pm_31 cd_31 ct_31 : Value}
    {f_32 : Addr} {od_32 an_32 : Option Addr} {sl_32 : Array (Option Value)} {oc_32 kV_32 dc_32 pm_32 cd_32 ct_32 : Value}
    {f_33 : Addr} {od_33 an_33 : Option Addr} {sl_33 : Array (Option Value)} {oc_33 kV_33 dc_33 pm_33 cd_33 ct_33 : Value}
    {f_34 : Addr} {od_34 an_34 : Option Addr} {sl_34 : Array (Option Value)} {oc_34 kV_34 dc_34 pm_34 cd_34 ct_34 : Value}
    {f_35 : Addr} {od_35 an_35 : Option Addr} {sl_35 : Array (Option Value)} {oc_35 kV_35 dc_35 pm_35 cd_35 ct_35 : Value}
    {f_36 : Addr} {od_36 an_36 : Option Addr} {sl_36 : Array (Option Value)} {oc_36 kV_36 dc_36 pm_36 cd_36 ct_36 : Value}
    {f_37 : Addr} {od_37 an_37 : Option Addr} {sl_37 : Array (Option Value)} {oc_37 kV_37 dc_37 pm_37 cd_37 ct_37 : Value}
    {f_38 : Addr} {od_38 an_38 : Option Addr} {sl_38 : Array (Option Value)} {oc_38 kV_38 dc_38 pm_38 cd_38 ct_38 : Value}
    {f_39 : Addr} {od_39 an_39 : Option Addr} {sl_39 : Array (Option Value)} {oc_39 kV_39 dc_39 pm_39 cd_39 ct_39 : Value}
    {fm0 : Addr} {odm0 anm0 : Option Addr} {slm0 : Array (Option Value)} {ocm0 kVm0 dcm0 pmm0 cdm0 ctm0 : Value}
    {p1 : Addr} {rest1 : List Value}
    {fm1 : Addr} {odm1 anm1 : Option Addr} {slm1 : Array (Option Value)} {ocm1 kVm1 dcm1 pmm1 cdm1 ctm1 : Value}
    {p2 : Addr} {rest2 : List Value}
    {fm2 : Addr} {odm2 anm2 : Option Addr} {slm2 : Array (Option Value)} {ocm2 kVm2 dcm2 pmm2 cdm2 ctm2 : Value}
    {p3 : Addr} {rest3 : List Value}
    {fm3 : Addr} {odm3 anm3 : Option Addr} {slm3 : Array (Option Value)} {ocm3 kVm3 dcm3 pmm3 cdm3 ctm3 : Value}
    {C aW aX : Addr} {dW dX : Option Addr} {nW nX : Nat} {slW slX : Array (Option Value)} {tw1 tw2 tw3 tw4 tx1 tx2 tx3 tS tL : Tok}
    {C2 fx cc cda N2 aLE : Addr} {nm2 q2 : Str} {bs2 : List Value} {sn2 : List Str} {sub2 : List Value} {ab2 : Bool} {col2 : Option Bool} {dd2 : Option Addr} {m0 m1 m2 m3 m5 : Option Value}
    {tDx : Addr} {octd : Value} {odtd : Option Addr} {ntd : Nat} {sltd : Array (Option Value)} {kVx dcx pmx ctx ocx : Value} {anx odx : Option Addr} {slx : Array (Option Value)} {ccl : Value} {cdd : Option Addr} {cvs : Array Value} {ccs : Array (Option Value)} {file : Str} {tf : Tok} {cl0 : Value} {cld : Option Addr} {csl : Array (Option Value)}
    {D2 : Addr}
    (X : K.In h) (G : h.Ns mainGlobals mg) (hfa : mg "law" = some (.ref fa))
    (a_0 : PySem.W.nsIn K mainGlobals "is_whole" = some (some (.ref f_0)))
    (l_0 : K.lookup f_0 = some ⟨oc_0, od_0, .func (PySem.W.fnOf "is_whole" "is_whole" (defArgs sIsWhole) (defBody sIsWhole) (defScope sIsWhole) .none kV_0 dc_0 pm_0 an_0 cd_0 ct_0), sl_0⟩)
    (c_0 : PySem.W.codeIn K cd_0 "is_whole" = true)
    (k_0 : PySem.W.keepIn K (.ref f_0) = true)
    (a_1 : PySem.W.nsIn K mainGlobals "is_edition" = some (some (.ref f_1)))
    (l_1 : K.lookup f_1 = some ⟨oc_1, od_1, .func (PySem.W.fnOf "is_edition" "is_edition" (defArgs sIsEdition) (defBody sIsEdition) (defScope sIsEdition) .none kV_1 dc_1 pm_1 an_1 cd_1 ct_1), sl_1⟩)
    (c_1 : PySem.W.codeIn K cd_1 "is_edition" = true)
    (k_1 : PySem.W.keepIn K (.ref f_1) = true)
    (a_2 : PySem.W.nsIn K mainGlobals "is_step" = some (some (.ref f_2)))
    (l_2 : K.lookup f_2 = some ⟨oc_2, od_2, .func (PySem.W.fnOf "is_step" "is_step" (defArgs sIsStep) (defBody sIsStep) (defScope sIsStep) .none kV_2 dc_2 pm_2 an_2 cd_2 ct_2), sl_2⟩)
    (c_2 : PySem.W.codeIn K cd_2 "is_step" = true)
    (k_2 : PySem.W.keepIn K (.ref f_2) = true)
    (a_3 : PySem.W.nsIn K mainGlobals "are_steps" = some (some (.ref f_3)))
    (l_3 : K.lookup f_3 = some ⟨oc_3, od_3, .func (PySem.W.fnOf "are_steps" "are_steps" (defArgs sAreSteps) (defBody sAreSteps) (defScope sAreSteps) .none kV_3 dc_3 pm_3 an_3 cd_3 ct_3), sl_3⟩)
    (c_3 : PySem.W.codeIn K cd_3 "are_steps" = true)
    (k_3 : PySem.W.keepIn K (.ref f_3) = true)
    (a_4 : PySem.W.nsIn K mainGlobals "check_schedule" = some (some (.ref f_4)))
    (l_4 : K.lookup f_4 = some ⟨oc_4, od_4, .func (PySem.W.fnOf "check_schedule" "check_schedule" (defArgs sCkSch) (defBody sCkSch) (defScope sCkSch) .none kV_4 dc_4 pm_4 an_4 cd_4 ct_4), sl_4⟩)
    (c_4 : PySem.W.codeIn K cd_4 "check_schedule" = true)
    (k_4 : PySem.W.keepIn K (.ref f_4) = true)
    (a_5 : PySem.W.nsIn K mainGlobals "check_both" = some (some (.ref f_5)))
    (l_5 : K.lookup f_5 = some ⟨oc_5, od_5, .func (PySem.W.fnOf "check_both" "check_both" (defArgs sCkBoth) (defBody sCkBoth) (defScope sCkBoth) .none kV_5 dc_5 pm_5 an_5 cd_5 ct_5), sl_5⟩)
    (c_5 : PySem.W.codeIn K cd_5 "check_both" = true)
    (k_5 : PySem.W.keepIn K (.ref f_5) = true)
    (a_6 : PySem.W.nsIn K mainGlobals "check_lag" = some (some (.ref f_6)))
    (l_6 : K.lookup f_6 = some ⟨oc_6, od_6, .func (PySem.W.fnOf "check_lag" "check_lag" (defArgs sCkLag) (defBody sCkLag) (defScope sCkLag) .none kV_6 dc_6 pm_6 an_6 cd_6 ct_6), sl_6⟩)
    (c_6 : PySem.W.codeIn K cd_6 "check_lag" = true)
    (k_6 : PySem.W.keepIn K (.ref f_6) = true)
    (a_7 : PySem.W.nsIn K mainGlobals "window_at" = some (some (.ref f_7)))
    (l_7 : K.lookup f_7 = some ⟨oc_7, od_7, .func (PySem.W.fnOf "window_at" "window_at" (defArgs sWindow) (defBody sWindow) (defScope sWindow) .none kV_7 dc_7 pm_7 an_7 cd_7 ct_7), sl_7⟩)
    (c_7 : PySem.W.codeIn K cd_7 "window_at" = true)
    (k_7 : PySem.W.keepIn K (.ref f_7) = true)
    (a_8 : PySem.W.nsIn K mainGlobals "are_entries" = some (some (.ref f_8)))
    (l_8 : K.lookup f_8 = some ⟨oc_8, od_8, .func (PySem.W.fnOf "are_entries" "are_entries" (defArgs sAreEntries) (defBody sAreEntries) (defScope sAreEntries) .none kV_8 dc_8 pm_8 an_8 cd_8 ct_8), sl_8⟩)
    (c_8 : PySem.W.codeIn K cd_8 "are_entries" = true)
    (k_8 : PySem.W.keepIn K (.ref f_8) = true)
    (a_9 : PySem.W.nsIn K mainGlobals "is_state" = some (some (.ref f_9)))
    (l_9 : K.lookup f_9 = some ⟨oc_9, od_9, .func (PySem.W.fnOf "is_state" "is_state" (defArgs sIsState) (defBody sIsState) (defScope sIsState) .none kV_9 dc_9 pm_9 an_9 cd_9 ct_9), sl_9⟩)
    (c_9 : PySem.W.codeIn K cd_9 "is_state" = true)
    (k_9 : PySem.W.keepIn K (.ref f_9) = true)
    (a_10 : PySem.W.nsIn K mainGlobals "check_state" = some (some (.ref f_10)))
    (l_10 : K.lookup f_10 = some ⟨oc_10, od_10, .func (PySem.W.fnOf "check_state" "check_state" (defArgs sCkState) (defBody sCkState) (defScope sCkState) .none kV_10 dc_10 pm_10 an_10 cd_10 ct_10), sl_10⟩)
    (c_10 : PySem.W.codeIn K cd_10 "check_state" = true)
    (k_10 : PySem.W.keepIn K (.ref f_10) = true)
    (a_11 : PySem.W.nsIn K mainGlobals "with_value" = some (some (.ref f_11)))
    (l_11 : K.lookup f_11 = some ⟨oc_11, od_11, .func (PySem.W.fnOf "with_value" "with_value" (defArgs sWithValue) (defBody sWithValue) (defScope sWithValue) .none kV_11 dc_11 pm_11 an_11 cd_11 ct_11), sl_11⟩)
    (c_11 : PySem.W.codeIn K cd_11 "with_value" = true)
    (k_11 : PySem.W.keepIn K (.ref f_11) = true)
    (a_12 : PySem.W.nsIn K mainGlobals "without" = some (some (.ref f_12)))
    (l_12 : K.lookup f_12 = some ⟨oc_12, od_12, .func (PySem.W.fnOf "without" "without" (defArgs sWithout) (defBody sWithout) (defScope sWithout) .none kV_12 dc_12 pm_12 an_12 cd_12 ct_12), sl_12⟩)
    (c_12 : PySem.W.codeIn K cd_12 "without" = true)
    (k_12 : PySem.W.keepIn K (.ref f_12) = true)
    (a_13 : PySem.W.nsIn K mainGlobals "served" = some (some (.ref f_13)))
    (l_13 : K.lookup f_13 = some ⟨oc_13, od_13, .func (PySem.W.fnOf "served" "served" (defArgs sServed) (defBody sServed) (defScope sServed) .none kV_13 dc_13 pm_13 an_13 cd_13 ct_13), sl_13⟩)
    (c_13 : PySem.W.codeIn K cd_13 "served" = true)
    (k_13 : PySem.W.keepIn K (.ref f_13) = true)
    (a_14 : PySem.W.nsIn K mainGlobals "visited" = some (some (.ref f_14)))
    (l_14 : K.lookup f_14 = some ⟨oc_14, od_14, .func (PySem.W.fnOf "visited" "visited" (defArgs sVisited) (defBody sVisited) (defScope sVisited) .none kV_14 dc_14 pm_14 an_14 cd_14 ct_14), sl_14⟩)
    (c_14 : PySem.W.codeIn K cd_14 "visited" = true)
    (k_14 : PySem.W.keepIn K (.ref f_14) = true)
    (a_15 : PySem.W.nsIn K mainGlobals "first_of" = some (some (.ref f_15)))
    (l_15 : K.lookup f_15 = some ⟨oc_15, od_15, .func (PySem.W.fnOf "first_of" "first_of" (defArgs sFirstOf) (defBody sFirstOf) (defScope sFirstOf) .none kV_15 dc_15 pm_15 an_15 cd_15 ct_15), sl_15⟩)
    (c_15 : PySem.W.codeIn K cd_15 "first_of" = true)
    (k_15 : PySem.W.keepIn K (.ref f_15) = true)
    (a_16 : PySem.W.nsIn K mainGlobals "rows_in" = some (some (.ref f_16)))
    (l_16 : K.lookup f_16 = some ⟨oc_16, od_16, .func (PySem.W.fnOf "rows_in" "rows_in" (defArgs sRowsIn) (defBody sRowsIn) (defScope sRowsIn) .none kV_16 dc_16 pm_16 an_16 cd_16 ct_16), sl_16⟩)
    (c_16 : PySem.W.codeIn K cd_16 "rows_in" = true)
    (k_16 : PySem.W.keepIn K (.ref f_16) = true)
    (a_17 : PySem.W.nsIn K mainGlobals "is_deed" = some (some (.ref f_17)))
    (l_17 : K.lookup f_17 = some ⟨oc_17, od_17, .func (PySem.W.fnOf "is_deed" "is_deed" (defArgs sIsDeed) (defBody sIsDeed) (defScope sIsDeed) .none kV_17 dc_17 pm_17 an_17 cd_17 ct_17), sl_17⟩)
    (c_17 : PySem.W.codeIn K cd_17 "is_deed" = true)
    (k_17 : PySem.W.keepIn K (.ref f_17) = true)
    (a_18 : PySem.W.nsIn K mainGlobals "done" = some (some (.ref f_18)))
    (l_18 : K.lookup f_18 = some ⟨oc_18, od_18, .func (PySem.W.fnOf "done" "done" (defArgs sDone) (defBody sDone) (defScope sDone) .none kV_18 dc_18 pm_18 an_18 cd_18 ct_18), sl_18⟩)
    (c_18 : PySem.W.codeIn K cd_18 "done" = true)
    (k_18 : PySem.W.keepIn K (.ref f_18) = true)
    (a_19 : PySem.W.nsIn K mainGlobals "breaks" = some (some (.ref f_19)))
    (l_19 : K.lookup f_19 = some ⟨oc_19, od_19, .func (PySem.W.fnOf "breaks" "breaks" (defArgs sBreaks) (defBody sBreaks) (defScope sBreaks) .none kV_19 dc_19 pm_19 an_19 cd_19 ct_19), sl_19⟩)
    (c_19 : PySem.W.codeIn K cd_19 "breaks" = true)
    (k_19 : PySem.W.keepIn K (.ref f_19) = true)
    (a_20 : PySem.W.nsIn K mainGlobals "follow" = some (some (.ref f_20)))
    (l_20 : K.lookup f_20 = some ⟨oc_20, od_20, .func (PySem.W.fnOf "follow" "follow" (defArgs sFollow) (defBody sFollow) (defScope sFollow) .none kV_20 dc_20 pm_20 an_20 cd_20 ct_20), sl_20⟩)
    (c_20 : PySem.W.codeIn K cd_20 "follow" = true)
    (k_20 : PySem.W.keepIn K (.ref f_20) = true)
    (a_21 : PySem.W.nsIn K mainGlobals "first_state" = some (some (.ref f_21)))
    (l_21 : K.lookup f_21 = some ⟨oc_21, od_21, .func (PySem.W.fnOf "first_state" "first_state" (defArgs sFirstState) (defBody sFirstState) (defScope sFirstState) .none kV_21 dc_21 pm_21 an_21 cd_21 ct_21), sl_21⟩)
    (c_21 : PySem.W.codeIn K cd_21 "first_state" = true)
    (k_21 : PySem.W.keepIn K (.ref f_21) = true)
    (a_22 : PySem.W.nsIn K mainGlobals "deeds" = some (some (.ref f_22)))
    (l_22 : K.lookup f_22 = some ⟨oc_22, od_22, .func (PySem.W.fnOf "deeds" "deeds" (defArgs sDeeds) (defBody sDeeds) (defScope sDeeds) .none kV_22 dc_22 pm_22 an_22 cd_22 ct_22), sl_22⟩)
    (c_22 : PySem.W.codeIn K cd_22 "deeds" = true)
    (k_22 : PySem.W.keepIn K (.ref f_22) = true)
    (a_23 : PySem.W.nsIn K mainGlobals "broken" = some (some (.ref f_23)))
    (l_23 : K.lookup f_23 = some ⟨oc_23, od_23, .func (PySem.W.fnOf "broken" "broken" (defArgs sBroken) (defBody sBroken) (defScope sBroken) .none kV_23 dc_23 pm_23 an_23 cd_23 ct_23), sl_23⟩)
    (c_23 : PySem.W.codeIn K cd_23 "broken" = true)
    (k_23 : PySem.W.keepIn K (.ref f_23) = true)
    (a_24 : PySem.W.nsIn K mainGlobals "after" = some (some (.ref f_24)))
    (l_24 : K.lookup f_24 = some ⟨oc_24, od_24, .func (PySem.W.fnOf "after" "after" (defArgs sAfter) (defBody sAfter) (defScope sAfter) .none kV_24 dc_24 pm_24 an_24 cd_24 ct_24), sl_24⟩)
    (c_24 : PySem.W.codeIn K cd_24 "after" = true)
    (k_24 : PySem.W.keepIn K (.ref f_24) = true)
    (a_25 : PySem.W.nsIn K mainGlobals "woven" = some (some (.ref f_25)))
    (l_25 : K.lookup f_25 = some ⟨oc_25, od_25, .func (PySem.W.fnOf "woven" "woven" (defArgs sWoven) (defBody sWoven) (defScope sWoven) .none kV_25 dc_25 pm_25 an_25 cd_25 ct_25), sl_25⟩)
    (c_25 : PySem.W.codeIn K cd_25 "woven" = true)
    (k_25 : PySem.W.keepIn K (.ref f_25) = true)
    (a_26 : PySem.W.nsIn K mainGlobals "_law_number" = some (some (.ref f_26)))
    (l_26 : K.lookup f_26 = some ⟨oc_26, od_26, .func (PySem.W.fnOf "_law_number" "_law_number" (defArgs sNumber) (defBody sNumber) (defScope sNumber) .none kV_26 dc_26 pm_26 an_26 cd_26 ct_26), sl_26⟩)
    (c_26 : PySem.W.codeIn K cd_26 "_law_number" = true)
    (k_26 : PySem.W.keepIn K (.ref f_26) = true)
    (a_27 : PySem.W.nsIn K mainGlobals "_law_edition" = some (some (.ref f_27)))
    (l_27 : K.lookup f_27 = some ⟨oc_27, od_27, .func (PySem.W.fnOf "_law_edition" "_law_edition" (defArgs sLEdition) (defBody sLEdition) (defScope sLEdition) .none kV_27 dc_27 pm_27 an_27 cd_27 ct_27), sl_27⟩)
    (c_27 : PySem.W.codeIn K cd_27 "_law_edition" = true)
    (k_27 : PySem.W.keepIn K (.ref f_27) = true)
    (a_28 : PySem.W.nsIn K mainGlobals "_law_parts" = some (some (.ref f_28)))
    (l_28 : K.lookup f_28 = some ⟨oc_28, od_28, .func (PySem.W.fnOf "_law_parts" "_law_parts" (defArgs sLParts) (defBody sLParts) (defScope sLParts) .none kV_28 dc_28 pm_28 an_28 cd_28 ct_28), sl_28⟩)
    (c_28 : PySem.W.codeIn K cd_28 "_law_parts" = true)
    (k_28 : PySem.W.keepIn K (.ref f_28) = true)
    (a_29 : PySem.W.nsIn K mainGlobals "_law_made" = some (some (.ref f_29)))
    (l_29 : K.lookup f_29 = some ⟨oc_29, od_29, .func (PySem.W.fnOf "_law_made" "_law_made" (defArgs sLMade) (defBody sLMade) (defScope sLMade) .none kV_29 dc_29 pm_29 an_29 cd_29 ct_29), sl_29⟩)
    (c_29 : PySem.W.codeIn K cd_29 "_law_made" = true)
    (k_29 : PySem.W.keepIn K (.ref f_29) = true)
    (a_30 : PySem.W.nsIn K mainGlobals "_law_window" = some (some (.ref f_30)))
    (l_30 : K.lookup f_30 = some ⟨oc_30, od_30, .func (PySem.W.fnOf "_law_window" "_law_window" (defArgs sLWindow) (defBody sLWindow) (defScope sLWindow) .none kV_30 dc_30 pm_30 an_30 cd_30 ct_30), sl_30⟩)
    (c_30 : PySem.W.codeIn K cd_30 "_law_window" = true)
    (k_30 : PySem.W.keepIn K (.ref f_30) = true)
    (a_31 : PySem.W.nsIn K mainGlobals "_law_served" = some (some (.ref f_31)))
    (l_31 : K.lookup f_31 = some ⟨oc_31, od_31, .func (PySem.W.fnOf "_law_served" "_law_served" (defArgs sLServed) (defBody sLServed) (defScope sLServed) .none kV_31 dc_31 pm_31 an_31 cd_31 ct_31), sl_31⟩)
    (c_31 : PySem.W.codeIn K cd_31 "_law_served" = true)
    (k_31 : PySem.W.keepIn K (.ref f_31) = true)
    (a_32 : PySem.W.nsIn K mainGlobals "_law_visited" = some (some (.ref f_32)))
    (l_32 : K.lookup f_32 = some ⟨oc_32, od_32, .func (PySem.W.fnOf "_law_visited" "_law_visited" (defArgs sLVisited) (defBody sLVisited) (defScope sLVisited) .none kV_32 dc_32 pm_32 an_32 cd_32 ct_32), sl_32⟩)
    (c_32 : PySem.W.codeIn K cd_32 "_law_visited" = true)
    (k_32 : PySem.W.keepIn K (.ref f_32) = true)
    (a_33 : PySem.W.nsIn K mainGlobals "_law_moves" = some (some (.ref f_33)))
    (l_33 : K.lookup f_33 = some ⟨oc_33, od_33, .func (PySem.W.fnOf "_law_moves" "_law_moves" (defArgs sLMoves) (defBody sLMoves) (defScope sLMoves) .none kV_33 dc_33 pm_33 an_33 cd_33 ct_33), sl_33⟩)
    (c_33 : PySem.W.codeIn K cd_33 "_law_moves" = true)
    (k_33 : PySem.W.keepIn K (.ref f_33) = true)
    (a_34 : PySem.W.nsIn K mainGlobals "_law_breaks" = some (some (.ref f_34)))
    (l_34 : K.lookup f_34 = some ⟨oc_34, od_34, .func (PySem.W.fnOf "_law_breaks" "_law_breaks" (defArgs sLBreaks) (defBody sLBreaks) (defScope sLBreaks) .none kV_34 dc_34 pm_34 an_34 cd_34 ct_34), sl_34⟩)
    (c_34 : PySem.W.codeIn K cd_34 "_law_breaks" = true)
    (k_34 : PySem.W.keepIn K (.ref f_34) = true)
    (a_35 : PySem.W.nsIn K mainGlobals "_law_any_state" = some (some (.ref f_35)))
    (l_35 : K.lookup f_35 = some ⟨oc_35, od_35, .func (PySem.W.fnOf "_law_any_state" "_law_any_state" (defArgs sLAny) (defBody sLAny) (defScope sLAny) .none kV_35 dc_35 pm_35 an_35 cd_35 ct_35), sl_35⟩)
    (c_35 : PySem.W.codeIn K cd_35 "_law_any_state" = true)
    (k_35 : PySem.W.keepIn K (.ref f_35) = true)
    (a_36 : PySem.W.nsIn K mainGlobals "_law_state_right" = some (some (.ref f_36)))
    (l_36 : K.lookup f_36 = some ⟨oc_36, od_36, .func (PySem.W.fnOf "_law_state_right" "_law_state_right" (defArgs sLRight) (defBody sLRight) (defScope sLRight) .none kV_36 dc_36 pm_36 an_36 cd_36 ct_36), sl_36⟩)
    (c_36 : PySem.W.codeIn K cd_36 "_law_state_right" = true)
    (k_36 : PySem.W.keepIn K (.ref f_36) = true)
    (a_37 : PySem.W.nsIn K mainGlobals "_law_bad" = some (some (.ref f_37)))
    (l_37 : K.lookup f_37 = some ⟨oc_37, od_37, .func (PySem.W.fnOf "_law_bad" "_law_bad" (defArgs sLBad) (defBody sLBad) (defScope sLBad) .none kV_37 dc_37 pm_37 an_37 cd_37 ct_37), sl_37⟩)
    (c_37 : PySem.W.codeIn K cd_37 "_law_bad" = true)
    (k_37 : PySem.W.keepIn K (.ref f_37) = true)
    (a_38 : PySem.W.nsIn K mainGlobals "_law_is_refused" = some (some (.ref f_38)))
    (l_38 : K.lookup f_38 = some ⟨oc_38, od_38, .func (PySem.W.fnOf "_law_is_refused" "_law_is_refused" (defArgs sLRefused) (defBody sLRefused) (defScope sLRefused) .none kV_38 dc_38 pm_38 an_38 cd_38 ct_38), sl_38⟩)
    (c_38 : PySem.W.codeIn K cd_38 "_law_is_refused" = true)
    (k_38 : PySem.W.keepIn K (.ref f_38) = true)
    (a_39 : PySem.W.nsIn K mainGlobals "law" = some (some (.ref f_39)))
    (l_39 : K.lookup f_39 = some ⟨oc_39, od_39, .func (PySem.W.fnOf "law" "law" (defArgs sLaw) (defBody sLaw) (defScope sLaw) .none kV_39 dc_39 pm_39 an_39 cd_39 ct_39), sl_39⟩)
    (c_39 : PySem.W.codeIn K cd_39 "law" = true)
    (k_39 : PySem.W.keepIn K (.ref f_39) = true)
    (aC : PySem.W.nsIn K mainGlobals "Schedule" = some (some (.ref C)))
    (am0 : PySem.W.findIn K (.ref C) "__init__" = some (some (.ref fm0)))
    (im0 : PySem.W.isFn K (.ref fm0) = true)
    (lm0 : K.lookup fm0 = some ⟨ocm0, odm0, .func (PySem.W.fnOf "__init__" "Schedule.__init__" (defArgs sInit) (defBody sInit) (defScope sInit) .none kVm0 dcm0 pmm0 anm0 cdm0 ctm0), slm0⟩)
    (cm0 : PySem.W.codeIn K cdm0 "Schedule.__init__" = true)
    (km0 : PySem.W.keepIn K (.ref fm0) = true)
    (pa1 : PySem.W.findIn K (.ref C) "width" = some (some (.ref p1)))
    (pb1 : PySem.W.specialIn K (.ref p1) "__get__" = some (some (.builtin "property.__get__")))
    (pc1 : PySem.W.takesIn K (.ref p1) = some true)
    (pd1 : PySem.W.recIn K p1 "property" = some (.ref fm1 :: rest1))
    (lm1 : K.lookup fm1 = some ⟨ocm1, odm1, .func (PySem.W.fnOf "width" "Schedule.width" (defArgs sWidth) (defBody sWidth) (defScope sWidth) .none kVm1 dcm1 pmm1 anm1 cdm1 ctm1), slm1⟩)
    (cm1 : PySem.W.codeIn K cdm1 "Schedule.width" = true)
    (km1 : PySem.W.keepIn K (.ref fm1) = true)
    (pa2 : PySem.W.findIn K (.ref C) "first" = some (some (.ref p2)))
    (pb2 : PySem.W.specialIn K (.ref p2) "__get__" = some (some (.builtin "property.__get__")))
    (pc2 : PySem.W.takesIn K (.ref p2) = some true)
    (pd2 : PySem.W.recIn K p2 "property" = some (.ref fm2 :: rest2))
    (lm2 : K.lookup fm2 = some ⟨ocm2, odm2, .func (PySem.W.fnOf "first" "Schedule.first" (defArgs sFirst) (defBody sFirst) (defScope sFirst) .none kVm2 dcm2 pmm2 anm2 cdm2 ctm2), slm2⟩)
    (cm2 : PySem.W.codeIn K cdm2 "Schedule.first" = true)
    (km2 : PySem.W.keepIn K (.ref fm2) = true)
    (pa3 : PySem.W.findIn K (.ref C) "steps" = some (some (.ref p3)))
    (pb3 : PySem.W.specialIn K (.ref p3) "__get__" = some (some (.builtin "property.__get__")))
    (pc3 : PySem.W.takesIn K (.ref p3) = some true)
    (pd3 : PySem.W.recIn K p3 "property" = some (.ref fm3 :: rest3))
    (lm3 : K.lookup fm3 = some ⟨ocm3, odm3, .func (PySem.W.fnOf "steps" "Schedule.steps" (defArgs sSteps) (defBody sSteps) (defScope sSteps) .none kVm3 dcm3 pmm3 anm3 cdm3 ctm3), slm3⟩)
    (cm3 : PySem.W.codeIn K cdm3 "Schedule.steps" = true)
    (km3 : PySem.W.keepIn K (.ref fm3) = true)
    (pg : PySem.W.plainGet K C Str.empty = true)
    (hd : PySem.W.hasDictIn K C = true)
    (po : PySem.W.plainOver K C = true)
    (sa : PySem.W.findIn K (.ref C) "__setattr__" = some (some (.builtin "object.__setattr__")))
    (mk : PySem.W.makesIn K C = true)
    (kc : PySem.W.keepIn K (.ref C) = true)
    (nR : PySem.W.findIn K (.ref C) "row" = some none)
    (nE : PySem.W.findIn K (.ref C) "every" = some none)
    (ks : PySem.W.kitOne K (.ref C) (.ref C) = some true)
    (hcl : PySem.W.findIn K (.ref C) "__class__" = some (some (.builtin "object.__class__")))
    (hsp : PySem.W.specialIn K (.builtin "object.__class__") "__get__" = some (some (.builtin "getset_descriptor.__get__")))
    (htk : PySem.W.takesIn K (.builtin "object.__class__") = some true)
    (hmo : PySem.W.mroIn K C (.type "object") = some true)
    (aW_ : PySem.W.nsIn K mainGlobals "WORDS" = some (some (.ref aW)))
    (lW : K.lookup aW = some ⟨.type "tuple", dW, .seq #[.str "absent" tw1, .str "delete" tw2, .str "public" tw3, .str "write" tw4] nW, slW⟩)
    (aX_ : PySem.W.nsIn K mainGlobals "WISHES" = some (some (.ref aX)))
    (lX : K.lookup aX = some ⟨.type "tuple", dX, .seq #[.str "left" tx1, .str "missed" tx2, .str "stray" tx3] nX, slX⟩)
    (aS : PySem.W.nsIn K mainGlobals "MOST_STEPS" = some (some (.int 12 tS)))
    (aL : PySem.W.nsIn K mainGlobals "MOST_LAG" = some (some (.int 4 tL)))
    (z_isinstance : PySem.W.nsIn K mainGlobals "isinstance" = some none)
    (z_int : PySem.W.nsIn K mainGlobals "int" = some none)
    (z_bool : PySem.W.nsIn K mainGlobals "bool" = some none)
    (z_str : PySem.W.nsIn K mainGlobals "str" = some none)
    (z_tuple : PySem.W.nsIn K mainGlobals "tuple" = some none)
    (z_list : PySem.W.nsIn K mainGlobals "list" = some none)
    (z_len : PySem.W.nsIn K mainGlobals "len" = some none)
    (z_all : PySem.W.nsIn K mainGlobals "all" = some none)
    (z_range : PySem.W.nsIn K mainGlobals "range" = some none)
    (z_sorted : PySem.W.nsIn K mainGlobals "sorted" = some none)
    (z_zip : PySem.W.nsIn K mainGlobals "zip" = some none)
    (z_enumerate : PySem.W.nsIn K mainGlobals "enumerate" = some none)
    (z_sum : PySem.W.nsIn K mainGlobals "sum" = some none)
    (z_max : PySem.W.nsIn K mainGlobals "max" = some none)
    (z_set : PySem.W.nsIn K mainGlobals "set" = some none)
    (z_super : PySem.W.nsIn K mainGlobals "super" = some none)
    (xa : PySem.W.nsIn K mainGlobals "BadDeeds" = some (some (.ref C2)))
    (xL : K.lookup C2 = some (excClassObj nm2 q2 C2 N2 bs2 [.ref aLE, .type "ValueError", .type "Exception", .type "BaseException", .type "object"] true sn2 sub2 ab2 col2 dd2 m0 m1 m2 m3 m5 "ValueError.__new__"))
    (xsa : PySem.W.findIn K (.ref C2) "__setattr__" = some (some (.builtin "object.__setattr__")))
    (xsb : PySem.W.subIn K (.ref C2) (.type "BaseException") = some true)
    (xty : PySem.W.typeIn K (.ref C2) = some (.type "type"))
    (xk : PySem.W.keepIn K (.ref C2) = true)
    (xi : PySem.W.findIn K (.ref C2) "__init__" = some (some (.ref fx)))
    (xit : PySem.W.typeIn K (.ref fx) = some (.type "function"))
    (xl : K.lookup fx = some ⟨ocx, odx, .func (PySem.W.ksFn "__init__" "BadDeeds.__init__" (defArgs sXInit) (defBody sXInit) xSc (.ref tDx) kVx dcx pmx anx (.ref cda) ctx cc), slx⟩)
    (xc : PySem.W.codeIn K (.ref cda) "BadDeeds.__init__" = true)
    (xdt : K.lookup tDx = some ⟨octd, odtd, .seq #[.none] ntd, sltd⟩)
    (xcd : K.lookup cda = some ⟨ccl, cdd, .fields cvs, ccs⟩)
    (xvs : cvs[2]? = some (.str file tf))
    (xfile : ((P.main.file : Str) == file) = true)
    (xcell : K.lookup cc = some ⟨cl0, cld, .cell (some (.ref C2)), csl⟩)
    (xhm : PySem.W.ks_superIn K C2 C2 "__init__" = some (some (.builtin "ValueError.__init__")))
    (xve : PySem.W.subIn K (.ref C2) (.type "ValueError") = some true)
    (xsu : PySem.W.mroIn K C2 (.ref C2) = some true)
    (xst : PySem.W.nsIn K cStatics "thirdparty.any" = some none)
    (xtop : (P.main.scope.names.lookup ("super" : Str)).isSome = false)
    (xni : PySem.W.findIn K (.ref C2) "index" = some none)
    (xga : PySem.W.findIn K (.ref C2) "__getattribute__" = some (some (.builtin "BaseException.__getattribute__")))
    (xgg : PySem.W.findIn K (.ref C2) "__getattr__" = some none)
    (xhd : PySem.W.hasDictIn K C2 = true)
    (xss : PySem.W.subIn K (.ref C2) (.ref C2) = some true)
    (da : PySem.W.nsIn K mainGlobals "BadDeed" = some (some (.ref D2)))
    (dk : PySem.W.keepIn K (.ref D2) = true)
    (dx : PySem.W.excIn K D2 [.type "ValueError", .type "Exception", .type "BaseException", .type "object"] "ValueError.__new__" = true)
    (dsb : PySem.W.subIn K (.ref D2) (.type "BaseException") = some true)
    (dty : PySem.W.typeIn K (.ref D2) = some (.type "type"))
    (dhd : PySem.W.hasDictIn K D2 = true)
    (dss : PySem.W.subIn K (.ref D2) (.ref D2) = some true)
    : ∃ fd : FuncData, (∀ (s : Shared) (v : Value), BindsTo s fd ⟨[v], []⟩ [("script", v)]) ∧ ∀ base : Heap, K.In base → base.Ns mainGlobals mg → FnOk P w K mg base CX0 9 fa fd ["script"] (spLaw K) := by
  have e := hfa.symm.trans (PySem.W.mg_of X G a_39)
  cases e
  have T : Txt K mg C aW aX := {
    n_isinstance := PySem.W.mg_none_of X G z_isinstance
    n_int := PySem.W.mg_none_of X G z_int
    n_bool := PySem.W.mg_none_of X G z_bool
    n_str := PySem.W.mg_none_of X G z_str
    n_tuple := PySem.W.mg_none_of X G z_tuple
    n_list := PySem.W.mg_none_of X G z_list
    n_len := PySem.W.mg_none_of X G z_len
    n_all := PySem.W.mg_none_of X G z_all
    n_range := PySem.W.mg_none_of X G z_range
    n_sorted := PySem.W.mg_none_of X G z_sorted
    n_zip := PySem.W.mg_none_of X G z_zip
    n_enumerate := PySem.W.mg_none_of X G z_enumerate
    n_sum := PySem.W.mg_none_of X G z_sum
    n_max := PySem.W.mg_none_of X G z_max
    n_set := PySem.W.mg_none_of X G z_set
    n_super := PySem.W.mg_none_of X G z_super
    g_WORDS := PySem.W.mg_of X G aW_
    w_WORDS := ⟨_, _, _, lW, rfl, rfl, (by show 4 ≤ sizeLine; decide), .cons ⟨_, rfl⟩ (.cons ⟨_, rfl⟩ (.cons ⟨_, rfl⟩ (.cons ⟨_, rfl⟩ .nil)))⟩
    g_WISHES := PySem.W.mg_of X G aX_
    w_WISHES := ⟨_, _, _, lX, rfl, rfl, (by show 3 ≤ sizeLine; decide), .cons ⟨_, rfl⟩ (.cons ⟨_, rfl⟩ (.cons ⟨_, rfl⟩ .nil))⟩
    g_MOST_STEPS := ⟨_, PySem.W.mg_of X G aS⟩
    g_MOST_LAG := ⟨_, PySem.W.mg_of X G aL⟩
    g_Schedule := PySem.W.mg_of X G aC
    cl := ⟨pg, hd, po, sa⟩
    nR := nR
    nE := nE
    kSelf := ks
    hcl := hcl
    hsp := hsp
    htk := htk
    hmo := hmo }
  have F_0 := fun_mk (st := sIsWhole) l_0 c_0 k_0
  have F_1 := fun_mk (st := sIsEdition) l_1 c_1 k_1
  have F_2 := fun_mk (st := sIsStep) l_2 c_2 k_2
  have F_3 := fun_mk (st := sAreSteps) l_3 c_3 k_3
  have F_4 := fun_mk (st := sCkSch) l_4 c_4 k_4
  have F_5 := fun_mk (st := sCkBoth) l_5 c_5 k_5
  have F_6 := fun_mk (st := sCkLag) l_6 c_6 k_6
  have F_7 := fun_mk (st := sWindow) l_7 c_7 k_7
  have F_8 := fun_mk (st := sAreEntries) l_8 c_8 k_8
  have F_9 := fun_mk (st := sIsState) l_9 c_9 k_9
  have F_10 := fun_mk (st := sCkState) l_10 c_10 k_10
  have F_11 := fun_mk (st := sWithValue) l_11 c_11 k_11
  have F_12 := fun_mk (st := sWithout) l_12 c_12 k_12
  have F_13 := fun_mk (st := sServed) l_13 c_13 k_13
  have F_14 := fun_mk (st := sVisited) l_14 c_14 k_14
  have F_15 := fun_mk (st := sFirstOf) l_15 c_15 k_15
  have F_16 := fun_mk (st := sRowsIn) l_16 c_16 k_16
  have F_17 := fun_mk (st := sIsDeed) l_17 c_17 k_17
  have F_18 := fun_mk (st := sDone) l_18 c_18 k_18
  have F_19 := fun_mk (st := sBreaks) l_19 c_19 k_19
  have F_20 := fun_mk (st := sFollow) l_20 c_20 k_20
  have F_21 := fun_mk (st := sFirstState) l_21 c_21 k_21
  have F_22 := fun_mk (st := sDeeds) l_22 c_22 k_22
  have F_23 := fun_mk (st := sBroken) l_23 c_23 k_23
  have F_24 := fun_mk (st := sAfter) l_24 c_24 k_24
  have F_25 := fun_mk (st := sWoven) l_25 c_25 k_25
  have F_26 := fun_mk (st := sNumber) l_26 c_26 k_26
  have F_27 := fun_mk (st := sLEdition) l_27 c_27 k_27
  have F_28 := fun_mk (st := sLParts) l_28 c_28 k_28
  have F_29 := fun_mk (st := sLMade) l_29 c_29 k_29
  have F_30 := fun_mk (st := sLWindow) l_30 c_30 k_30
  have F_31 := fun_mk (st := sLServed) l_31 c_31 k_31
  have F_32 := fun_mk (st := sLVisited) l_32 c_32 k_32
  have F_33 := fun_mk (st := sLMoves) l_33 c_33 k_33
  have F_34 := fun_mk (st := sLBreaks) l_34 c_34 k_34
  have F_35 := fun_mk (st := sLAny) l_35 c_35 k_35
  have F_36 := fun_mk (st := sLRight) l_36 c_36 k_36
  have F_37 := fun_mk (st := sLBad) l_37 c_37 k_37
  have F_38 := fun_mk (st := sLRefused) l_38 c_38 k_38
  have F_39 := fun_mk (st := sLaw) l_39 c_39 k_39
  have Fm0 := fun_mk (st := sInit) lm0 cm0 km0
  have Fm1 := fun_mk (st := sWidth) lm1 cm1 km1
  have Fm2 := fun_mk (st := sFirst) lm2 cm2 km2
  have Fm3 := fun_mk (st := sSteps) lm3 cm3 km3
  have XT : XTxt P K mg C2 fx cc cda _ := {
    fn := ⟨.ref tDx, kVx, dcx, pmx, ctx, ocx, anx, odx, slx, rfl, xl⟩
    hcd := xc
    code := ⟨ccl, cdd, cvs, ccs, file, tf, xcd, xvs, xfile⟩
    cell := ⟨cl0, cld, csl, xcell⟩
    T := ⟨⟨nm2, q2, N2, bs2, _, sn2, sub2, ab2, col2, dd2, m0, m1, m2, m3, m5, xL, rfl⟩, xsa, xsb, xty, xk⟩
    hm := xhm
    hB := xve
    hsub := xsu
    hst := xst
    htop := xtop
    nidx := xni
    n_super := PySem.W.mg_none_of X G z_super
    n_str := PySem.W.mg_none_of X G z_str }
  have bX : BXT K mg C2 fx (PySem.W.ksFn "__init__" "BadDeeds.__init__" (defArgs sXInit) (defBody sXInit) xSc (.ref tDx) kVx dcx pmx anx (.ref cda) ctx cc) := ⟨PySem.W.mg_of X G xa, xi, xit, xbinds xdt⟩
  have BT : BDT K mg D2 := ⟨PySem.W.mg_of X G da, dk, dx, dsb, dty⟩
  have EX1 : ExX K mg "BadDeeds" C2 := ⟨PySem.W.mg_of X G xa, PySem.W.exm_ref xsb xhd xty xss⟩
  have EX2 : ExX K mg "BadDeed" D2 := ⟨PySem.W.mg_of X G da, PySem.W.exm_ref dsb dhd dty dss⟩
  have XF : XfC K C2 := ⟨xga, xgg, xsb, xhd⟩
  refine ⟨PySem.W.fnOf "law" "law" (defArgs sLaw) (defBody sLaw) (defScope sLaw) .none kV_39 dc_39 pm_39 an_39 cd_39 ct_39, fun s v => .of_eq rfl, fun base _ _ => ?_⟩
  have p_width : Pr P w K mg base C 1 "width" (spProp C 0) := ⟨⟨p1, fm1, _, ["self"], ⟨pa1, pb1, pc1, ⟨_, pd1⟩⟩, ok_width Fm1 T, Fm1.binds (fun _ _ _ _ _ _ us hl => match us, hl with | [_], _ => rfl)⟩⟩
  have p_first : Pr P w K mg base C 1 "first" (spProp C 1) := ⟨⟨p2, fm2, _, ["self"], ⟨pa2, pb2, pc2, ⟨_, pd2⟩⟩, ok_first Fm2 T, Fm2.binds (fun _ _ _ _ _ _ us hl => match us, hl with | [_], _ => rfl)⟩⟩
  have p_steps : Pr P w K mg base C 1 "steps" (spProp C 2) := ⟨⟨p3, fm3, _, ["self"], ⟨pa3, pb3, pc3, ⟨_, pd3⟩⟩, ok_steps Fm3 T, Fm3.binds (fun _ _ _ _ _ _ us hl => match us, hl with | [_], _ => rfl)⟩⟩
  have c_is_whole : Ca P w K mg base CX0 1 "is_whole" ["value", "low", "high"] spIsWhole := ⟨⟨_, _, ok_is_whole F_0 T , (PySem.W.mg_of X G a_0), k_0, F_0.binds (fun _ _ _ _ _ _ us hl => match us, hl with | [_, _, _], _ => rfl)⟩⟩
  have c_is_edition : Ca P w K mg base CX0 1 "is_edition" ["value"] spIsEdition := ⟨⟨_, _, ok_is_edition F_1 T , (PySem.W.mg_of X G a_1), k_1, F_1.binds (fun _ _ _ _ _ _ us hl => match us, hl with | [_], _ => rfl)⟩⟩
  have c_is_step : Ca P w K mg base CX0 2 "is_step" ["many", "value"] spIsStep := ⟨⟨_, _, ok_is_step F_2 T c_is_edition c_is_whole, (PySem.W.mg_of X G a_2), k_2, F_2.binds (fun _ _ _ _ _ _ us hl => match us, hl with | [_, _], _ => rfl)⟩⟩
  have c_are_steps : Ca P w K mg base CX0 3 "are_steps" ["many", "value"] spAreSteps := ⟨⟨_, _, ok_are_steps F_3 T c_is_step, (PySem.W.mg_of X G a_3), k_3, F_3.binds (fun _ _ _ _ _ _ us hl => match us, hl with | [_, _], _ => rfl)⟩⟩
  have c_Schedule : CaM P w K mg base C 4 (spInit C) := ⟨⟨fm0, _, ["self", "width", "first", "steps"], ⟨mk, am0, im0, kc⟩, ok_init Fm0 T c_is_whole c_is_edition c_are_steps, Fm0.binds (fun _ _ _ _ _ _ us hl => match us, hl with | [_, _, _, _], _ => rfl)⟩⟩
  have c_check_schedule : Ca P w K mg base CX0 1 "check_schedule" ["value"] (spCkSch C) := ⟨⟨_, _, ok_check_schedule F_4 T , (PySem.W.mg_of X G a_4), k_4, F_4.binds (fun _ _ _ _ _ _ us hl => match us, hl with | [_], _ => rfl)⟩⟩
  have c_check_lag : Ca P w K mg base CX0 2 "check_lag" ["value"] spCkLag := ⟨⟨_, _, ok_check_lag F_6 T c_is_whole, (PySem.W.mg_of X G a_6), k_6, F_6.binds (fun _ _ _ _ _ _ us hl => match us, hl with | [_], _ => rfl)⟩⟩
  have c_check_both : Ca P w K mg base CX0 3 "check_both" ["schedule", "lag"] (spCkBoth C) := ⟨⟨_, _, ok_check_both F_5 T c_check_schedule c_check_lag, (PySem.W.mg_of X G a_5), k_5, F_5.binds (fun _ _ _ _ _ _ us hl => match us, hl with | [_, _], _ => rfl)⟩⟩
  have c_window_at : Ca P w K mg base CX0 3 "window_at" ["schedule", "begun", "lag"] (spWindow C) := ⟨⟨_, _, ok_window F_7 T p_steps, (PySem.W.mg_of X G a_7), k_7, F_7.binds (fun _ _ _ _ _ _ us hl => match us, hl with | [_, _, _], _ => rfl)⟩⟩
  have c_are_entries : Ca P w K mg base CX0 2 "are_entries" ["values", "value"] spAreEntries := ⟨⟨_, _, ok_are_entries F_8 T c_is_whole, (PySem.W.mg_of X G a_8), k_8, F_8.binds (fun _ _ _ _ _ _ us hl => match us, hl with | [_, _], _ => rfl)⟩⟩
  have c_is_state : Ca P w K mg base CX0 3 "is_state" ["schedule", "value"] (spIsState C) := ⟨⟨_, _, ok_is_state F_9 T c_is_whole c_are_entries p_steps p_width p_first, (PySem.W.mg_of X G a_9), k_9, F_9.binds (fun _ _ _ _ _ _ us hl => match us, hl with | [_, _], _ => rfl)⟩⟩
  have c_check_state : Ca P w K mg base CX0 4 "check_state" ["schedule", "state", "lag"] (spCkState C) := ⟨⟨_, _, ok_check_state F_10 T c_check_both c_is_state, (PySem.W.mg_of X G a_10), k_10, F_10.binds (fun _ _ _ _ _ _ us hl => match us, hl with | [_, _, _], _ => rfl)⟩⟩
  have c_with_value : Ca P w K mg base CX0 1 "with_value" ["some", "value"] spWithValue := ⟨⟨_, _, ok_with_value F_11 T , (PySem.W.mg_of X G a_11), k_11, F_11.binds (fun _ _ _ _ _ _ us hl => match us, hl with | [_, _], _ => rfl)⟩⟩
  have c_without : Ca P w K mg base CX0 1 "without" ["some", "value"] spWithout := ⟨⟨_, _, ok_without F_12 T , (PySem.W.mg_of X G a_12), k_12, F_12.binds (fun _ _ _ _ _ _ us hl => match us, hl with | [_, _], _ => rfl)⟩⟩
  have c_served : Ca P w K mg base CX0 2 "served" ["edition", "row", "entries", "value"] spServed := ⟨⟨_, _, ok_served F_13 T c_without c_with_value, (PySem.W.mg_of X G a_13), k_13, F_13.binds (fun _ _ _ _ _ _ us hl => match us, hl with | [_, _, _, _], _ => rfl)⟩⟩
  have c_visited : Ca P w K mg base CX0 2 "visited" ["step", "row", "entries"] spVisited := ⟨⟨_, _, ok_visited F_14 T c_with_value, (PySem.W.mg_of X G a_14), k_14, F_14.binds (fun _ _ _ _ _ _ us hl => match us, hl with | [_, _, _], _ => rfl)⟩⟩
  have c_first_of : Ca P w K mg base CX0 3 "first_of" ["schedule"] (spFirstOf C) := ⟨⟨_, _, ok_first_of F_15 T p_first, (PySem.W.mg_of X G a_15), k_15, F_15.binds (fun _ _ _ _ _ _ us hl => match us, hl with | [_], _ => rfl)⟩⟩
  have c_rows_in : Ca P w K mg base CX0 4 "rows_in" ["schedule", "lag", "state"] (spRowsIn C) := ⟨⟨_, _, ok_rows_in F_16 T c_visited c_window_at c_served p_steps p_width, (PySem.W.mg_of X G a_16), k_16, F_16.binds (fun _ _ _ _ _ _ us hl => match us, hl with | [_, _, _], _ => rfl)⟩⟩
  have c_is_deed : Ca P w K mg base CX0 2 "is_deed" ["value"] spIsDeed := ⟨⟨_, _, ok_is_deed F_17 T , (PySem.W.mg_of X G a_17), k_17, F_17.binds (fun _ _ _ _ _ _ us hl => match us, hl with | [_], _ => rfl)⟩⟩
  have c_done : Ca P w K mg base CX0 5 "done" ["schedule", "lag", "state", "deed"] (spDone C) := ⟨⟨_, _, ok_done F_18 T c_is_deed c_rows_in, (PySem.W.mg_of X G a_18), k_18, F_18.binds (fun _ _ _ _ _ _ us hl => match us, hl with | [_, _, _, _], _ => rfl)⟩⟩
  have c_breaks : Ca P w K mg base CX0 5 "breaks" ["schedule", "lag", "state"] (spBreaks C) := ⟨⟨_, _, ok_breaks F_19 T c_window_at c_without p_steps, (PySem.W.mg_of X G a_19), k_19, F_19.binds (fun _ _ _ _ _ _ us hl => match us, hl with | [_, _, _], _ => rfl)⟩⟩
  have c_follow : Ca P w K mg base (L2.CX P w) 6 "follow" ["schedule", "lag", "history"] (spFollow C C2) := ⟨⟨_, _, ok_follow F_20 T XT bX c_first_of c_done, (PySem.W.mg_of X G a_20), k_20, F_20.binds (fun _ _ _ _ _ _ us hl => match us, hl with | [_, _, _], _ => rfl)⟩⟩
  have c_first_state : Ca P w K mg base CX0 4 "first_state" ["schedule"] (spFirstOf C) := ⟨⟨_, _, ok_first_state F_21 T c_check_schedule c_first_of, (PySem.W.mg_of X G a_21), k_21, F_21.binds (fun _ _ _ _ _ _ us hl => match us, hl with | [_], _ => rfl)⟩⟩
  have c_deeds : CaK P w K mg base CX0 5 "deeds" 2 ["lag"] ["schedule", "state", "lag"] (spDeeds C) := ⟨⟨_, _, ok_deeds F_22 T c_check_state c_rows_in, (PySem.W.mg_of X G a_22), k_22, kbn_of F_22 (fun _ _ _ _ _ _ us ws h1 h2 => match us, ws, h1, h2 with | [_, _], [_], _, _ => rfl)⟩⟩
  have c_broken : CaK P w K mg base CX0 6 "broken" 2 ["lag"] ["schedule", "state", "lag"] (spBroken C) := ⟨⟨_, _, ok_broken F_23 T c_check_state c_breaks, (PySem.W.mg_of X G a_23), k_23, kbn_of F_23 (fun _ _ _ _ _ _ us ws h1 h2 => match us, ws, h1, h2 with | [_, _], [_], _, _ => rfl)⟩⟩
  have c_after : CaK P w K mg base (L2.CX P w) 6 "after" 3 ["lag"] ["schedule", "state", "deed", "lag"] (spAfter C D2) := ⟨⟨_, _, ok_after F_24 T BT c_check_state c_done, (PySem.W.mg_of X G a_24), k_24, kbn_of F_24 (fun _ _ _ _ _ _ us ws h1 h2 => match us, ws, h1, h2 with | [_, _, _], [_], _, _ => rfl)⟩⟩
  have c_woven : CaK P w K mg base (L2.CX P w) 7 "woven" 2 ["lag"] ["schedule", "history", "lag"] (spWoven C C2) := ⟨⟨_, _, ok_woven F_25 T c_check_both c_follow, (PySem.W.mg_of X G a_25), k_25, kbn_of F_25 (fun _ _ _ _ _ _ us ws h1 h2 => match us, ws, h1, h2 with | [_, _], [_], _, _ => rfl)⟩⟩
  have c_law_number : Ca P w K mg base CX0 1 "_law_number" ["script", "index"] (spNumber K) := ⟨⟨_, _, ok_number F_26 T , (PySem.W.mg_of X G a_26), k_26, F_26.binds (fun _ _ _ _ _ _ us hl => match us, hl with | [_, _], _ => rfl)⟩⟩
  have c_law_edition : Ca P w K mg base CX0 1 "_law_edition" ["seed", "many"] spLEdition := ⟨⟨_, _, ok_law_edition F_27 T , (PySem.W.mg_of X G a_27), k_27, F_27.binds (fun _ _ _ _ _ _ us hl => match us, hl with | [_, _], _ => rfl)⟩⟩
  have c_law_parts : Ca P w K mg base CX0 2 "_law_parts" ["script", "at", "top", "many"] (spLParts K) := ⟨⟨_, _, ok_law_parts F_28 T c_law_number c_law_edition, (PySem.W.mg_of X G a_28), k_28, F_28.binds (fun _ _ _ _ _ _ us hl => match us, hl with | [_, _, _, _], _ => rfl)⟩⟩
  have c_law_made : Ca P w K mg base CX0 6 "_law_made" ["parts"] (spLMade C) := ⟨⟨_, _, ok_law_made F_29 T c_Schedule, (PySem.W.mg_of X G a_29), k_29, F_29.binds (fun _ _ _ _ _ _ us hl => match us, hl with | [_], _ => rfl)⟩⟩
  have c_law_window : Ca P w K mg base CX0 1 "_law_window" ["parts", "begun", "loss"] spLWindow := ⟨⟨_, _, ok_law_window F_30 T , (PySem.W.mg_of X G a_30), k_30, F_30.binds (fun _ _ _ _ _ _ us hl => match us, hl with | [_, _, _], _ => rfl)⟩⟩
  have c_law_served : Ca P w K mg base CX0 1 "_law_served" ["edition", "old", "new", "entries"] spLServed := ⟨⟨_, _, ok_law_served F_31 T , (PySem.W.mg_of X G a_31), k_31, F_31.binds (fun _ _ _ _ _ _ us hl => match us, hl with | [_, _, _, _], _ => rfl)⟩⟩
  have c_law_visited : Ca P w K mg base CX0 1 "_law_visited" ["step", "row", "entries"] spVisited := ⟨⟨_, _, ok_law_visited F_32 T , (PySem.W.mg_of X G a_32), k_32, F_32.binds (fun _ _ _ _ _ _ us hl => match us, hl with | [_, _, _], _ => rfl)⟩⟩
  have c_law_moves : Ca P w K mg base CX0 2 "_law_moves" ["parts", "loss", "state"] spLMoves := ⟨⟨_, _, ok_law_moves F_33 T c_law_visited c_law_window c_law_served, (PySem.W.mg_of X G a_33), k_33, F_33.binds (fun _ _ _ _ _ _ us hl => match us, hl with | [_, _, _], _ => rfl)⟩⟩
  have c_law_breaks : Ca P w K mg base CX0 2 "_law_breaks" ["parts", "loss", "state"] spLBreaks := ⟨⟨_, _, ok_law_breaks F_34 T c_law_window, (PySem.W.mg_of X G a_34), k_34, F_34.binds (fun _ _ _ _ _ _ us hl => match us, hl with | [_, _, _], _ => rfl)⟩⟩
  have c_law_any_state : Ca P w K mg base CX0 2 "_law_any_state" ["script", "at", "parts"] (spLAny K) := ⟨⟨_, _, ok_law_any F_35 T c_law_number, (PySem.W.mg_of X G a_35), k_35, F_35.binds (fun _ _ _ _ _ _ us hl => match us, hl with | [_, _, _], _ => rfl)⟩⟩
  have c_law_state_right : Ca P w K mg base CX0 7 "_law_state_right" ["schedule", "parts", "loss", "state"] (spLRight C) := ⟨⟨_, _, ok_law_right F_36 T c_law_moves c_law_breaks c_deeds c_broken c_after, (PySem.W.mg_of X G a_36), k_36, F_36.binds (fun _ _ _ _ _ _ us hl => match us, hl with | [_, _, _, _], _ => rfl)⟩⟩
  have c_law_bad : Ca P w K mg base CX0 8 "_law_bad" ["schedule", "loss", "history"] (spLBad C) := ⟨⟨_, _, ok_law_bad F_37 T EX1 XF xni c_woven, (PySem.W.mg_of X G a_37), k_37, F_37.binds (fun _ _ _ _ _ _ us hl => match us, hl with | [_, _, _], _ => rfl)⟩⟩
  have c_law_is_refused : Ca P w K mg base CX0 7 "_law_is_refused" ["schedule", "loss", "state", "deed"] (spLRefused C) := ⟨⟨_, _, ok_law_refused F_38 T EX2 c_after, (PySem.W.mg_of X G a_38), k_38, F_38.binds (fun _ _ _ _ _ _ us hl => match us, hl with | [_, _, _, _], _ => rfl)⟩⟩
  exact ok_law F_39 T c_law_number c_law_parts c_law_made c_first_state c_law_state_right c_law_moves c_law_any_state c_woven c_law_is_refused c_law_bad
theorem walk {l : PySem.W.OpenLaw} {q : Program} {loose : List Str} {XP : (Str → Option Value) → Heap → Prop} {YP : World → Heap → Prop} {d : DefRec} {K : Params → PySem.W.Frag} (hn : l.most = some 63) (hdf : d.params.defaults = [])
    (hY : ∀ (w : World) (h : Heap), YP w h → (K w.params).In h)
    (F : ∀ (w : World) (mg : Str → Option Value) (fa : Addr) (h : Heap), (K w.params).In h → h.Ns mainGlobals mg → mg d.name = some (.ref fa) →
      ∃ fd : FuncData, (∀ (s : Shared) (u : Value), BindsTo s fd ⟨[u], []⟩ [("script", u)]) ∧ ∀ base : Heap, (K w.params).In base → base.Ns mainGlobals mg → FnOk l.prog w (K w.params) mg base CX0 9 fa fd ["script"] (spLaw (K w.params))) :
    PySem.W.WalkO q loose XP YP l.row.toRowW d [] (fun f vs => PySem.call f vs) :=
  L2.walk_of (n := 63) (k := 9) (x := "script") (CX := fun _ => CX0) (sp := fun w => spLaw (K w.params)) hn (by decide) hdf ⟨rfl, by decide, by decide⟩ hY F (fun _ _ a ns hl _ hS => ⟨_, rfl, ⟨a, ns, rfl, hS, hl⟩, fun _ => rfl⟩) fun _ _ _ _ _ z => z
end EL

open PySem PySem.W PyProof.Rows
set_option maxRecDepth 100000 in
set_option maxHeartbeats 0 in
theorem PySem.Challenge.cw_editionlag_k02_whole_states_holds : PySem.Challenge.rw_editionlag_k02_whole_states.Holds := by
  w_on; o_law; k_head; (case hw => w_witness2)
  k_fill
  refine EL.walk (l := PySem.Challenge.rw_editionlag_k02_whole_states) rfl rfl (fun w h Y => PySem.W.kIn_of Y) ?F
  case F =>
    intro w mg fa h KX G hmg
    refine' EL.all_mk KX G hmg ?a_0 ?l_0 ?c_0 ?k_0 ?a_1 ?l_1 ?c_1 ?k_1 ?a_2 ?l_2 ?c_2 ?k_2 ?a_3 ?l_3 ?c_3 ?k_3 ?a_4 ?l_4 ?c_4 ?k_4 ?a_5 ?l_5 ?c_5 ?k_5 ?a_6 ?l_6 ?c_6 ?k_6 ?a_7 ?l_7 ?c_7 ?k_7 ?a_8 ?l_8 ?c_8 ?k_8 ?a_9 ?l_9 ?c_9 ?k_9 ?a_10 ?l_10 ?c_10 ?k_10 ?a_11 ?l_11 ?c_11 ?k_11 ?a_12 ?l_12 ?c_12 ?k_12 ?a_13 ?l_13 ?c_13 ?k_13 ?a_14 ?l_14 ?c_14 ?k_14 ?a_15 ?l_15 ?c_15 ?k_15 ?a_16 ?l_16 ?c_16 ?k_16 ?a_17 ?l_17 ?c_17 ?k_17 ?a_18 ?l_18 ?c_18 ?k_18 ?a_19 ?l_19 ?c_19 ?k_19 ?a_20 ?l_20 ?c_20 ?k_20 ?a_21 ?l_21 ?c_21 ?k_21 ?a_22 ?l_22 ?c_22 ?k_22 ?a_23 ?l_23 ?c_23 ?k_23 ?a_24 ?l_24 ?c_24 ?k_24 ?a_25 ?l_25 ?c_25 ?k_25 ?a_26 ?l_26 ?c_26 ?k_26 ?a_27 ?l_27 ?c_27 ?k_27 ?a_28 ?l_28 ?c_28 ?k_28 ?a_29 ?l_29 ?c_29 ?k_29 ?a_30 ?l_30 ?c_30 ?k_30 ?a_31 ?l_31 ?c_31 ?k_31 ?a_32 ?l_32 ?c_32 ?k_32 ?a_33 ?l_33 ?c_33 ?k_33 ?a_34 ?l_34 ?c_34 ?k_34 ?a_35 ?l_35 ?c_35 ?k_35 ?a_36 ?l_36 ?c_36 ?k_36 ?a_37 ?l_37 ?c_37 ?k_37 ?a_38 ?l_38 ?c_38 ?k_38 ?a_39 ?l_39 ?c_39 ?k_39 ?aC ?am0 ?im0 ?lm0 ?cm0 ?km0 ?pa1 ?pb1 ?pc1 ?pd1 ?lm1 ?cm1 ?km1 ?pa2 ?pb2 ?pc2 ?pd2 ?lm2 ?cm2 ?km2 ?pa3 ?pb3 ?pc3 ?pd3 ?lm3 ?cm3 ?km3 ?pg ?hd ?po ?sa ?mk ?kc ?nR ?nE ?ks ?hcl ?hsp ?htk ?hmo ?aW_ ?lW ?aX_ ?lX ?aS ?aL ?z_isinstance ?z_int ?z_bool ?z_str ?z_tuple ?z_list ?z_len ?z_all ?z_range ?z_sorted ?z_zip ?z_enumerate ?z_sum ?z_max ?z_set ?z_super ?xa ?xL ?xsa ?xsb ?xty ?xk ?xi ?xit ?xl ?xc ?xdt ?xcd ?xvs ?xfile ?xcell ?xhm ?xve ?xsu ?xst ?xtop ?xni ?xga ?xgg ?xhd ?xss ?da ?dk ?dx ?dsb ?dty ?dhd ?dss
    (case a_0 => k_is)
    (case l_0 => k_is)
    (case c_0 => k_is)
    (case k_0 => k_is)
    (case a_1 => k_is)
    (case l_1 => k_is)
    (case c_1 => k_is)
    (case k_1 => k_is)
    (case a_2 => k_is)
    (case l_2 => k_is)
    (case c_2 => k_is)
    (case k_2 => k_is)
    (case a_3 => k_is)
    (case l_3 => k_is)
    (case c_3 => k_is)
    (case k_3 => k_is)
    (case a_4 => k_is)
    (case l_4 => k_is)
    (case c_4 => k_is)
    (case k_4 => k_is)
    (case a_5 => k_is)
    (case l_5 => k_is)
    (case c_5 => k_is)
    (case k_5 => k_is)
    (case a_6 => k_is)
    (case l_6 => k_is)
    (case c_6 => k_is)
    (case k_6 => k_is)
    (case a_7 => k_is)
    (case l_7 => k_is)
    (case c_7 => k_is)
    (case k_7 => k_is)
    (case a_8 => k_is)
    (case l_8 => k_is)
    (case c_8 => k_is)
    (case k_8 => k_is)
    (case a_9 => k_is)
    (case l_9 => k_is)
    (case c_9 => k_is)
    (case k_9 => k_is)
    (case a_10 => k_is)
    (case l_10 => k_is)
    (case c_10 => k_is)
    (case k_10 => k_is)
    (case a_11 => k_is)
    (case l_11 => k_is)
    (case c_11 => k_is)
    (case k_11 => k_is)
    (case a_12 => k_is)
    (case l_12 => k_is)
    (case c_12 => k_is)
    (case k_12 => k_is)
    (case a_13 => k_is)
    (case l_13 => k_is)
    (case c_13 => k_is)
    (case k_13 => k_is)
    (case a_14 => k_is)
    (case l_14 => k_is)
    (case c_14 => k_is)
    (case k_14 => k_is)
    (case a_15 => k_is)
    (case l_15 => k_is)
    (case c_15 => k_is)
    (case k_15 => k_is)
    (case a_16 => k_is)
    (case l_16 => k_is)
    (case c_16 => k_is)
    (case k_16 => k_is)
    (case a_17 => k_is)
    (case l_17 => k_is)
    (case c_17 => k_is)
    (case k_17 => k_is)
    (case a_18 => k_is)
    (case l_18 => k_is)
    (case c_18 => k_is)
    (case k_18 => k_is)
    (case a_19 => k_is)
    (case l_19 => k_is)
    (case c_19 => k_is)
    (case k_19 => k_is)
    (case a_20 => k_is)
    (case l_20 => k_is)
    (case c_20 => k_is)
    (case k_20 => k_is)
    (case a_21 => k_is)
    (case l_21 => k_is)
    (case c_21 => k_is)
    (case k_21 => k_is)
    (case a_22 => k_is)
    (case l_22 => k_is)
    (case c_22 => k_is)
    (case k_22 => k_is)
    (case a_23 => k_is)
    (case l_23 => k_is)
    (case c_23 => k_is)
    (case k_23 => k_is)
    (case a_24 => k_is)
    (case l_24 => k_is)
    (case c_24 => k_is)
    (case k_24 => k_is)
    (case a_25 => k_is)
    (case l_25 => k_is)
    (case c_25 => k_is)
    (case k_25 => k_is)
    (case a_26 => k_is)
    (case l_26 => k_is)
    (case c_26 => k_is)
    (case k_26 => k_is)
    (case a_27 => k_is)
    (case l_27 => k_is)
    (case c_27 => k_is)
    (case k_27 => k_is)
    (case a_28 => k_is)
    (case l_28 => k_is)
    (case c_28 => k_is)
    (case k_28 => k_is)
    (case a_29 => k_is)
    (case l_29 => k_is)
    (case c_29 => k_is)
    (case k_29 => k_is)
    (case a_30 => k_is)
    (case l_30 => k_is)
    (case c_30 => k_is)
    (case k_30 => k_is)
    (case a_31 => k_is)
    (case l_31 => k_is)
    (case c_31 => k_is)
    (case k_31 => k_is)
    (case a_32 => k_is)
    (case l_32 => k_is)
    (case c_32 => k_is)
    (case k_32 => k_is)
    (case a_33 => k_is)
    (case l_33 => k_is)
    (case c_33 => k_is)
    (case k_33 => k_is)
    (case a_34 => k_is)
    (case l_34 => k_is)
    (case c_34 => k_is)
    (case k_34 => k_is)
    (case a_35 => k_is)
    (case l_35 => k_is)
    (case c_35 => k_is)
    (case k_35 => k_is)
    (case a_36 => k_is)
    (case l_36 => k_is)
    (case c_36 => k_is)
    (case k_36 => k_is)
    (case a_37 => k_is)
    (case l_37 => k_is)
    (case c_37 => k_is)
    (case k_37 => k_is)
    (case a_38 => k_is)
    (case l_38 => k_is)
    (case c_38 => k_is)
    (case k_38 => k_is)
    (case a_39 => k_is)
    (case l_39 => k_is)
    (case c_39 => k_is)
    (case k_39 => k_is)
    (case aC => k_is)
    (case am0 => k_is)
    (case im0 => k_is)
    (case lm0 => k_is)
    (case cm0 => k_is)
    (case km0 => k_is)
    (case pa1 => k_is)
    (case pb1 => k_is)
    (case pc1 => k_is)
    (case pd1 => k_is)
    (case lm1 => k_is)
    (case cm1 => k_is)
    (case km1 => k_is)
    (case pa2 => k_is)
    (case pb2 => k_is)
    (case pc2 => k_is)
    (case pd2 => k_is)
    (case lm2 => k_is)
    (case cm2 => k_is)
    (case km2 => k_is)
    (case pa3 => k_is)
    (case pb3 => k_is)
    (case pc3 => k_is)
    (case pd3 => k_is)
    (case lm3 => k_is)
    (case cm3 => k_is)
    (case km3 => k_is)
    (case pg => k_is)
    (case hd => k_is)
    (case po => k_is)
    (case sa => k_is)
    (case mk => k_is)
    (case kc => k_is)
    (case nR => k_is)
    (case nE => k_is)
    (case ks => first | k_is | rfl | kernel_rfl)
    (case hcl => k_is)
    (case hsp => k_is)
    (case htk => k_is)
    (case hmo => k_is)
    (case aW_ => k_is)
    (case lW => k_is)
    (case aX_ => k_is)
    (case lX => k_is)
    (case aS => k_is)
    (case aL => k_is)
    (case z_isinstance => k_is)
    (case z_int => k_is)
    (case z_bool => k_is)
    (case z_str => k_is)
    (case z_tuple => k_is)
    (case z_list => k_is)
    (case z_len => k_is)
    (case z_all => k_is)
    (case z_range => k_is)
    (case z_sorted => k_is)
    (case z_zip => k_is)
    (case z_enumerate => k_is)
    (case z_sum => k_is)
    (case z_max => k_is)
    (case z_set => k_is)
    (case z_super => k_is)
    (case xa => k_is)
    (case xL => k_is)
    (case xsa => k_is)
    (case xsb => k_is)
    (case xty => k_is)
    (case xk => k_is)
    (case xi => k_is)
    (case xit => k_is)
    (case xl => k_is)
    (case xc => k_is)
    (case xdt => k_is)
    (case xcd => k_is)
    (case xvs => rfl)
    (case xfile => decide +kernel)
    (case xcell => k_is)
    (case xhm => first | ks_is | k_is | kernel_rfl)
    (case xve => k_is)
    (case xsu => first | k_is | rfl)
    (case xst => k_is)
    (case xtop => decide +kernel)
    (case xni => k_is)
    (case xga => k_is)
    (case xgg => k_is)
    (case xhd => k_is)
    (case xss => first | rfl | k_is)
    (case da => k_is)
    (case dk => k_is)
    (case dx => k_exc)
    (case dsb => k_is)
    (case dty => k_is)
    (case dhd => k_is)
    (case dss => first | rfl | k_is)
#print axioms PySem.Challenge.cw_editionlag_k02_whole_states_holds

