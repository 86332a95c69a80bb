/-
  Part 2 of the proof: the evaluator and what it is worth. Conditions: those of the theorems below.
-/
import Derived.Test.YtejfdhcigkgbmaaDoorClamps1
import Derived.Laws.BitsAllLaws
import Derived.Laws.Bits64
import Derived.Laws.BitsLemmas
import Derived.Test.YtejfdhcigkgbmaaDoorProg
set_option linter.all false
namespace Go.Proofs.YtejfdhcigkgbmaaDoor.PE
open Go
section
variable {w : World} {S S2 : Nat → Prop} {μ : Mu} {h : Heap}

theorem mapO_L {g : PV → Option PV} {Q : PV → Prop} (hg : ∀ v v' cs, Q v → g v = some v' → RepC w S μ v cs → RepC w S2 noMu v' cs) :
    ∀ (vs ws : List PV) (cs : List Value), (∀ v ∈ vs, Q v) → mapO g vs = some ws → RepL w S μ vs cs → RepL w S2 noMu ws cs
  | [], ws, cs, _, h, hr => by cases hr; simp [mapO] at h; subst h; exact .nil _
  | v :: vs, ws, cs, hq, h, hr => by
    simp only [mapO] at h
    split at h
    case h_2 => cases h
    rename_i v' hv
    split at h
    case h_2 => cases h
    rename_i us hus
    simp at h; subst h
    cases hr with
    | cons _ _ _ c1 c2 h1 h2 => exact .cons _ _ _ _ _ (hg v v' c1 (hq v (by simp)) hv h1) (mapO_L hg vs us c2 (fun u hu => hq u (by simp [hu])) hus h2)
theorem mapO_VL {g : PV → Option PV} {Q : PV → Prop} (hg : ∀ v v' x, Q v → g v = some v' → RepV w S μ v x → RepV w S2 noMu v' x) :
    ∀ (vs ws : List PV) (xs : List Value), (∀ v ∈ vs, Q v) → mapO g vs = some ws → RepVL w S μ vs xs → RepVL w S2 noMu ws xs
  | [], ws, xs, _, h, hr => by cases hr; simp [mapO] at h; subst h; exact .nil _
  | v :: vs, ws, xs, hq, h, hr => by
    simp only [mapO] at h
    split at h
    case h_2 => cases h
    rename_i v' hv
    split at h
    case h_2 => cases h
    rename_i us hus
    simp at h; subst h
    cases hr with
    | cons _ _ _ x xs h1 h2 => exact .cons _ _ _ _ _ (hg v v' x (hq v (by simp)) hv h1) (mapO_VL hg vs us xs (fun u hu => hq u (by simp [hu])) hus h2)
theorem mapO_get {g : PV → Option PV} : ∀ (vs ws : List PV), mapO g vs = some ws → ws.length = vs.length ∧ ∀ (j : Nat) (v : PV), vs[j]? = some v → ∃ v', ws[j]? = some v' ∧ g v = some v'
  | [], ws, h => by simp [mapO] at h; subst h; exact ⟨rfl, fun j v h => by simp at h⟩
  | u :: us, ws, h => by
    simp only [mapO] at h
    split at h
    case h_2 => cases h
    rename_i u' hu
    split at h
    case h_2 => cases h
    rename_i zs hzs
    simp at h; subst h
    obtain ⟨h1, h2⟩ := mapO_get us zs hzs
    refine ⟨by simp [h1], fun j v hj => ?_⟩
    cases j with
    | zero => simp at hj; subst hj; exact ⟨u', rfl, hu⟩
    | succ j => simp at hj; simpa using h2 j v hj
/-- What is reached from here lies in S2. -/
def Reach (μ : Mu) (h : Heap) (S2 : Nat → Prop) (l : List Nat) : Prop := ∀ b ∈ l, ∀ k a z, hget h b = some k → μ b = some (a, z) → S2 a
theorem Reach.sub {l l' : List Nat} (hr : Reach μ h S2 l) (hs : ∀ b ∈ l', b ∈ l) : Reach μ h S2 l' := fun b hb => hr b (hs b hb)
theorem holds_foldO {g : PV → Option Bool} : ∀ {vs : List PV}, holds (foldO g vs) → ∀ v ∈ vs, holds (g v)
  | [], _, v, hv => by cases hv
  | u :: us, h, v, hv => by
    obtain ⟨h1, h2⟩ := holds_oand h
    rcases List.mem_cons.1 hv with rfl | hv
    · exact h1
    · exact holds_foldO h2 v hv
theorem frz_rep (hS : ∀ n, S n → S2 n) (hh : HRel w S μ (hget h)) : ∀ (d : Nat) (v v' : PV), holds (frzOk h d v) → Reach μ h S2 (deep h d v) → frz h d v = some v' →
    (∀ cs, RepC w S μ v cs → RepC w S2 noMu v' cs) ∧ (∀ x, RepV w S μ v x → RepV w S2 noMu v' x)
  | 0, _, _, _, _, hf => by simp [frz] at hf
  | d + 1, v, v', hok, hrch, hf => by
    have hm : Mono w w S S2 := ⟨hS, fun _ _ _ => rfl⟩
    have ihL : ∀ (vs ws : List PV) (cs : List Value), (∀ u ∈ vs, holds (frzOk h d u) ∧ Reach μ h S2 (deep h d u)) → mapO (frz h d) vs = some ws → RepL w S μ vs cs → RepL w S2 noMu ws cs :=
      mapO_L (Q := fun u => holds (frzOk h d u) ∧ Reach μ h S2 (deep h d u)) (fun u u' cs hq hg hr => (frz_rep hS hh d u u' hq.1 hq.2 hg).1 cs hr)
    have ihVL : ∀ (vs ws : List PV) (xs : List Value), (∀ u ∈ vs, holds (frzOk h d u) ∧ Reach μ h S2 (deep h d u)) → mapO (frz h d) vs = some ws → RepVL w S μ vs xs → RepVL w S2 noMu ws xs :=
      mapO_VL (Q := fun u => holds (frzOk h d u) ∧ Reach μ h S2 (deep h d u)) (fun u u' x hq hg hr => (frz_rep hS hh d u u' hq.1 hq.2 hg).2 x hr)
    have hmem : ∀ (vs : List PV), holds (foldO (frzOk h d) vs) → Reach μ h S2 (vs.flatMap (deep h d)) → ∀ u ∈ vs, holds (frzOk h d u) ∧ Reach μ h S2 (deep h d u) :=
      fun vs ho hr u hu => ⟨holds_foldO ho u hu, hr.sub (fun b hb => List.mem_flatMap.2 ⟨u, hu, hb⟩)⟩
    have hC : ∀ cs, RepC w S μ v cs → isAgg v' = isAgg v ∧ RepC w S2 noMu v' cs := by
      intro cs hr
      cases hr <;> simp only [frz] at hf <;> simp only [deep] at hrch <;> simp only [frzOk] at hok
      case b => simp at hf; subst hf; exact ⟨rfl, .b _ _⟩
      case bl => simp at hf; subst hf; exact ⟨rfl, .bl _ _⟩
      case i => simp at hf; subst hf; exact ⟨rfl, .i _ _ _⟩
      case s => simp at hf; subst hf; exact ⟨rfl, .s _ _⟩
      case q => simp at hf; subst hf; exact ⟨rfl, .q _ _ _ (by assumption)⟩
      case agg vs hr =>
        split at hf
        case h_2 => cases hf
        rename_i ws hws
        simp at hf; subst hf
        exact ⟨rfl, .agg _ _ _ (ihL vs ws cs (hmem vs hok hrch) hws hr)⟩
      case nil => simp at hf; subst hf; exact ⟨rfl, .nil _⟩
      case lst e c a o cap cs' h1 h2 h3 h4 h5 =>
        simp at hf; subst hf
        exact ⟨rfl, (RepC.lst (w := w) (S := S) noMu e c a o cap cs' h1 h2 h3 h4 h5).mono hm _ (MuLe.refl _)⟩
      case ref u a o cs' h1 h2 h3 =>
        simp at hf; subst hf
        exact ⟨rfl, (RepC.ref (w := w) (S := S) noMu u a o cs' h1 h2 h3).mono hm _ (MuLe.refl _)⟩
      case w u x hr =>
        simp at hf; subst hf
        exact ⟨rfl, (RepC.w (w := w) (S := S) noMu u x hr).mono hm _ (MuLe.refl _)⟩
      case sl b e off len a z o cap hcap hz ho hb =>
        split at hf
        case h_2 => cases hf
        rename_i k hk
        split at hf
        case h_2 => cases hf
        rename_i hck
        simp only [Bool.and_eq_true, beq_iff_eq] at hck
        obtain ⟨hke, hle0⟩ := hck
        rw [hk] at hok
        obtain ⟨hok1, hok2⟩ := holds_oand hok
        have hle := lenOk_le hle0 hok1
        split at hf
        case h_2 => cases hf
        rename_i c' hc'
        simp at hf; subst hf
        refine ⟨rfl, ?_⟩
        rw [hk] at hrch
        simp only at hrch
        have hSa : S2 a := hrch b (List.mem_cons_self ..) k a z hk hb
        obtain ⟨a2, z2, hmu2, cur, T', ks, hg, hzz, hlez, hkr, hkl, hkc⟩ := hh.blk b k hk
        have e1 := hb.symm.trans hmu2; cases e1
        have hcl := Cont.len_cut k.c off len hle
        -- the frozen content
        have hfr : c'.len = len ∧ ∀ i, i < len → RepC w S2 noMu (c'.get i) (ks (off + i)) := by
          unfold frzC at hc'
          split at hc'
          · rename_i vs hvs
            split at hc'
            case h_2 => cases hc'
            rename_i ws hws
            simp at hc'; subst hc'
            rw [hvs] at hrch hok2
            obtain ⟨hl2, hg2⟩ := mapO_get vs ws hws
            have hvl : vs.length = len := by rw [← hcl, hvs]; rfl
            refine ⟨by simp [Cont.len, hl2, hvl], fun i hi => ?_⟩
            have hvi : vs[i]? = some (vs[i]'(by omega)) := List.getElem?_eq_getElem _
            obtain ⟨v2, hv2, hf2⟩ := hg2 i _ hvi
            have hki := hkr (off + i) (by omega)
            have hrow : rowMu μ k.c = μ := by
              have : rowMu μ (k.c.cut off len) = μ := by rw [hvs]; rfl
              rwa [rowMu_cut] at this
            rw [hrow, ← Cont.get_cut k.c off len i hi, hvs] at hki
            simp only [Cont.get, List.getD_eq_getElem?_getD, hvi, Option.getD_some] at hki
            have := (frz_rep hS hh d _ v2 (holds_foldO hok2 _ (List.getElem_mem _)) (hrch.sub (fun q hq => List.mem_cons_of_mem _ (List.mem_flatMap.2 ⟨_, List.getElem_mem _, hq⟩))) hf2).1 _ hki
            simpa [Cont.get, List.getD_eq_getElem?_getD, hv2] using this
          · rename_i c hcne
            simp at hc'
            subst hc'
            refine ⟨hcl, fun i hi => ?_⟩
            have hki := hkr (off + i) (by omega)
            have hrow : rowMu μ k.c = noMu := by
              rw [← rowMu_cut μ k.c off len]
              cases hcc : k.c.cut off len <;> first | rfl | exact absurd hcc (hcne _)
            rw [hrow, ← Cont.get_cut k.c off len i hi] at hki
            exact hki.mono hm _ (MuLe.refl _)
        have hlst := RepC.lst (w := w) (S := S2) noMu e c' a o cap (fun i => ks (off + i)) (by rw [hfr.1]; exact hcap) hSa (fun i hi => hfr.2 i (by rw [hfr.1] at hi; exact hi))
          (fun i hi => by rw [hfr.1] at hi; rw [← hke]; exact hkl _ (by omega))
          (fun i j hi hj => by
            rw [hfr.1] at hi
            have ho' : o = off * e := by
              rcases ho with h | ⟨h, _⟩
              · exact h
              · omega
            rw [cell_of_row w a _ cur T' _ hg, ho', ← Nat.add_assoc, ← Nat.add_mul, ← hke]
            exact hkc _ _ (by omega) (by omega))
        rw [hfr.1] at hlst
        exact hlst
      case ptr b e i off p a z hb =>
        split at hf
        case h_2 => cases hf
        rename_i k hk
        split at hf
        case h_2 => cases hf
        rename_i hck
        simp only [Bool.and_eq_true, beq_iff_eq] at hck
        obtain ⟨hke, hik0⟩ := hck
        split at hf
        case h_2 => cases hf
        rename_i o1 u hsub
        split at hf
        case h_2 => cases hf
        rename_i hoo
        simp at hoo; subst hoo
        split at hf
        case h_2 => cases hf
        rename_i u' hu'
        simp at hf; subst hf
        refine ⟨rfl, ?_⟩
        rw [hk] at hrch hok
        simp only [hsub] at hrch hok
        obtain ⟨hok1, hok2⟩ := holds_oand hok
        have hik : i < k.c.len := lenOk_le hik0 hok1
        have hSa : S2 a := hrch b (List.mem_cons_self ..) k a z hk hb
        obtain ⟨a2, z2, hmu2, cur, T', ks, hg, hzz, hlez, hkr, hkl, hkc⟩ := hh.blk b k hk
        have e1 := hb.symm.trans hmu2; cases e1
        have hki := (hkr i hik).mono (w' := w) (S' := S) ⟨fun _ h => h, fun _ _ _ => rfl⟩ μ (rowMu_sub μ _)
        obtain ⟨c1, c2, c3, hcs, hlen, hru⟩ := sub_rep p _ _ _ _ hsub hki
        have := (frz_rep hS hh d u u' hok2 (hrch.sub (fun q hq => List.mem_cons_of_mem _ hq)) hu').1 _ hru
        refine .ref _ _ _ _ c2 hSa this (fun j hj => ?_)
        have hlt : o1 + j < k.e := by rw [← hkl i hik, hcs]; simp; omega
        have hcc := hkc i (o1 + j) hik hlt
        rw [cell_of_row w a _ cur T' _ hg, ← hke, show i * k.e + o1 + j = i * k.e + (o1 + j) by omega, hcc, hcs,
          List.append_assoc, List.getElem?_append_right (by omega), hlen, Nat.add_sub_cancel_left, List.getElem?_append_left hj]
      case clo f caps xs hr =>
        split at hf
        case h_2 => cases hf
        rename_i ws hws
        simp at hf; subst hf
        exact ⟨rfl, .clo _ _ _ _ (ihVL caps ws xs (hmem caps hok hrch) hws hr)⟩
      case nilf => simp at hf; subst hf; exact ⟨rfl, .nilf _⟩
      case ifc T u x hr =>
        split at hf
        case h_2 => cases hf
        rename_i u' hu'
        simp at hf; subst hf
        exact ⟨rfl, .ifc _ _ _ _ ((frz_rep hS hh d u u' hok hrch hu').2 x hr)⟩
      case nili => simp at hf; subst hf; exact ⟨rfl, .nili _⟩
      case nilp => simp at hf; subst hf; exact ⟨rfl, .nilp _⟩
    refine ⟨fun cs hr => (hC cs hr).2, fun x hr => ?_⟩
    cases hr with
    | cell _ _ _ hv hr => obtain ⟨h1, h2⟩ := hC _ hr; exact .cell _ _ _ (h1.trans hv) h2
    | agg _ _ _ hv hr => obtain ⟨h1, h2⟩ := hC _ hr; exact .agg _ _ _ (h1.trans hv) h2
    | und => simp [frz] at hf; subst hf; exact .und _
    | any => simp [frz] at hf; subst hf; exact .any _ _
    | tup _ vs xs hr =>
      simp only [frz] at hf
      simp only [deep] at hrch
      simp only [frzOk] at hok
      split at hf
      case h_2 => cases hf
      rename_i ws hws
      simp at hf; subst hf
      exact .tup _ _ _ (ihVL vs ws xs (hmem vs hok hrch) hws hr)
/-- What is flat says the same wherever the immutable memory lies. -/
theorem flat_rep {S2 : Nat → Prop} : ∀ (d : Nat) (μ : Mu) (v : PV), flat d v = true → (∀ cs, RepC w S μ v cs → RepC w S2 μ v cs) ∧ (∀ x, RepV w S μ v x → RepV w S2 μ v x)
  | 0, _, _, h => by simp [flat] at h
  | d + 1, μ, v, h => by
    have hL : ∀ (vs : List PV), vs.all (flat d) = true → ∀ cs, RepL w S μ vs cs → RepL w S2 μ vs cs := by
      intro vs
      induction vs with
      | nil => intro _ cs hr; cases hr; exact .nil _
      | cons u us ih =>
        intro ha cs hr
        simp at ha
        cases hr with
        | cons _ _ _ c1 c2 h1 h2 => exact .cons _ _ _ _ _ ((flat_rep d μ u ha.1).1 _ h1) (ih (by simpa using ha.2) _ h2)
    have hVL : ∀ (vs : List PV), vs.all (flat d) = true → ∀ cs, RepVL w S μ vs cs → RepVL w S2 μ vs cs := by
      intro vs
      induction vs with
      | nil => intro _ cs hr; cases hr; exact .nil _
      | cons u us ih =>
        intro ha cs hr
        simp at ha
        cases hr with
        | cons _ _ _ c1 c2 h1 h2 => exact .cons _ _ _ _ _ ((flat_rep d μ u ha.1).2 _ h1) (ih (by simpa using ha.2) _ h2)
    have hC : ∀ cs, RepC w S μ v cs → RepC w S2 μ v cs := by
      intro cs hr
      cases hr <;> simp only [flat] at h
      case b => exact .b _ _
      case bl => exact .bl _ _
      case i => exact .i _ _ _
      case s => exact .s _ _
      case q => exact .q _ _ _ (by assumption)
      case agg vs hr => exact .agg _ _ _ (hL vs h _ hr)
      case nil => exact .nil _
      case sl h1 h2 h3 h4 => exact .sl _ _ _ _ _ _ _ _ _ (by assumption) (by assumption) (by assumption) (by assumption)
      case ptr => exact .ptr _ _ _ _ _ _ _ _ (by assumption)
      all_goals cases h
    refine ⟨hC, fun x hr => ?_⟩
    cases hr with
    | cell _ _ _ hv hr => exact .cell _ _ _ hv (hC _ hr)
    | agg _ _ _ hv hr => exact .agg _ _ _ hv (hC _ hr)
    | und => exact .und _
    | any => exact .any _ _
    | tup _ vs xs hr => simp only [flat] at h; exact .tup _ _ _ (hVL vs h _ hr)
theorem flatC_rep {S2 : Nat → Prop} {μ : Mu} {k : Blk} {a z : Nat} (h : flatC k.c = true) (hb : BlkRel w S μ k a z) : BlkRel w S2 μ k a z := by
  obtain ⟨c, T, cs, h1, h2, h3, h4, h5, h6⟩ := hb
  refine ⟨c, T, cs, h1, h2, h3, fun i hi => ?_, h5, h6⟩
  have h7 := h4 i hi
  cases hc : k.c with
  | ints kk xs => rw [hc] at h7; simp only [Cont.get, rowMu] at h7 ⊢; generalize cs i = y at h7; cases h7; exact .i _ _ _
  | rats n xs => rw [hc] at h7; simp only [Cont.get, rowMu] at h7 ⊢; generalize cs i = y at h7; cases h7; exact .q _ _ _ (by assumption)
  | vals vs =>
    rw [hc] at h7 h hi
    simp only [flatC] at h
    simp only [Cont.len] at hi
    have hm : (Cont.vals vs).get i ∈ vs := by
      simp only [Cont.get, List.getD]
      rw [List.getElem?_eq_getElem hi]
      exact List.getElem_mem hi
    exact (flat_rep 6 _ _ (List.all_eq_true.1 h _ hm)).1 _ h7
  | fn n f => rw [hc] at h; cases h
end
end Go.Proofs.YtejfdhcigkgbmaaDoor.PE
/-! The evaluator of a function's code. -/
namespace Go.Proofs.YtejfdhcigkgbmaaDoor.PE
open Go

/-- The function that an operation calls, and its arguments. -/
def callee (t : List PV) (op : Op) : Option (Nat × List PV) :=
  match op with
  | .call c => match c.callee with
    | .value f => match evO t f with
      | .clo g caps => some (g, c.args.toList.map (evO t) ++ caps)
      | _ => none
    | _ => none
  | _ => none

/-- The numbers of a call's blocks turned back into the caller's. -/
def bk (ids : List Nat) : Nat → PV → Option PV
  | 0, _ => none
  | d + 1, v => match v with
    | .sl b e off len => match ids[b]? with
      | some c => some (.sl c e off len)
      | none => none
    | .ptr b e i off p => match ids[b]? with
      | some c => some (.ptr c e i off p)
      | none => none
    | .agg vs => match mapO (bk ids d) vs with
      | some ws => some (.agg ws)
      | none => none
    | .tup vs => match mapO (bk ids d) vs with
      | some ws => some (.tup ws)
      | none => none
    | .clo f cs => match mapO (bk ids d) cs with
      | some ws => some (.clo f ws)
      | none => none
    | .ifc t w => match bk ids d w with
      | some w' => some (.ifc t w')
      | none => none
    | .fr _ _ => none
    | v => some v
def brO (o : Option Bool) (x : Tr) (n : Nat) : Tr := match o with | none => x | some b => .br b x (.no n)
/-- One operation. -/
def popO (P : Program) (O : Orc) (wr : List (Nat × List Nat)) (own : Bool) (t : List PV) (id : Nat) (h : Heap) (op : Op) (w : Nat) (K : Eff → Tr) : Tr :=
  match callee t op with
  | some (g, ags) => match Orc.look g O with
    | none => .no w
    | some sp => match passO h ((assoc g wr).getD []) 0 ags with
      | none => .no w
      | some ps =>
        let see := seen h ((assoc g wr).getD []) 0 ags
        match ps.ids.all (fun b => !see.contains b) with
        | false => .no w
        | true => brO ps.ok (sp ps.args ps.blks fun r hs => match zipW ps.ids hs with
          | none => .no w
          | some ws =>
            let u := unfr ps.blks.length r
            match see.isEmpty || (flat 6 u.1 && (u.2 ++ hs).all (fun k => flatC k.c)) with
            | false => .no w
            | true => match own with
              | true => match bk (ps.ids ++ upto id u.2.length) 6 u.1 with
                | some v => K (v, ws, u.2)
                | none => .no w
              | false => match frz (List.replicate ps.blks.length none ++ u.2.map some) 6 u.1 with
                | some v => brO (frzOk (List.replicate ps.blks.length none ++ u.2.map some) 6 u.1) (K (v, ws, [])) w
                | none => .no w) w
  | none => match popV P own t id h op with
    | .fail => .no w
    | .one e => K e
    | .cond b e => .br b (K e) (.no w)

def putW : Heap → List (Nat × Option Blk) → Heap
  | h, [] => h
  | h, (b, k) :: r => putW (h.set b k) r
def putT (t : List PV) (dst : Option Nat) (v : PV) : List PV := match dst with | some d => t.set d v | none => t
def putE (s : St) (dst : Option Nat) (e : Eff) : St := { t := putT s.t dst e.1, h := putW (s.h ++ e.2.2.map some) e.2.1 }
def ownD (pol : Pol) (dst : Option Nat) : Bool := match dst with | some d => pol.own.contains d | none => false

/-! ### Regions that may be run in any order. -/
def ids1 : PV → List Nat
  | .sl b _ _ _ => [b]
  | .ptr b _ _ _ _ => [b]
  | _ => []
/-- The own blocks that an operation looks at. -/
def usesO (t : List PV) (h : Heap) (op : Op) : List Nat :=
  match callee t op with
  | some (_, ags) => ags.flatMap (deep h 6)
  | none => match op with
    | .load _ x => ids1 (evO t x)
    | .store _ x _ => ids1 (evO t x)
    | .slice _ x _ _ _ => ids1 (evO t x)
    | .convert _ _ x => ids1 (evO t x)
    | .call c => c.args.toList.flatMap fun x => ids1 (evO t x)
    | _ => []
def mask (u : List Nat) : Nat → Heap → Heap
  | _, [] => []
  | n, b :: r => (match u.contains n with | true => b | false => none) :: mask u (n + 1) r
structure Rc where
  u : List Nat
  wr : List Nat
def touch (id : Nat) (e : Eff) : List Nat := e.2.1.map (·.1) ++ upto id e.2.2.length
def disj (a b : List Nat) : Bool := a.all fun x => !b.contains x
/-- No quarrel with what came before, the latest first. -/
def clash (row : Nat) (u wr : List Nat) : List Rc → Bool
  | [] => true
  | r :: rs => (Nat.testBit row rs.length || (disj r.wr u && disj wr r.u && disj wr r.wr)) && clash row u wr rs
def rowOf (tab : List Nat) : List Edge → Nat → Option Nat
  | [], m => some m
  | e :: es, m => match Region.binds .any e with
    | true => match tab[e.on]? with
      | some x => rowOf tab es (m ||| x ||| (1 <<< e.on))
      | none => none
    | false => rowOf tab es m
def apartB (all : Array Oper) (o : Oper) (row : Nat) : Nat → List Oper → Bool
  | _, [] => true
  | j, x :: r => (Nat.testBit row j || Oper.apart all x o) && apartB all o row (j + 1) r
/-- For each operation the set of those that stand before it in every order. -/
def rowsOf (all : Array Oper) : List Oper → List Oper → List Nat → Option (List Nat)
  | [], _, tab => some tab
  | o :: r, before, tab => match rowOf tab o.after.toList 0 with
    | some m => match apartB all o m 0 before with
      | true => rowsOf all r (before ++ [o]) (tab ++ [m])
      | false => none
    | none => none

/-- The operations of a region in the order of the text. -/
def evOps (P : Program) (O : Orc) (pol : Pol) (all : Array Oper) (w0 : Nat) (K : St → Tr) : Nat → Option (List Nat) → List Rc → List Oper → St → Tr
  | 0, _, _, _, _ => .no 2
  | _ + 1, _, _, [], s => K s
  | n + 1, d, rs, o :: r, s =>
    let go (t : List PV) : Tr := match d with
      | none => popO P O pol.wr (ownD pol o.dst) t s.h.length s.h o.op (w0 + n) fun e => evOps P O pol all w0 K n none [] r (putE { s with t := t } o.dst e)
      | some rows => popO P O pol.wr (ownD pol o.dst) t s.h.length (mask (usesO t s.h o.op) 0 s.h) o.op (w0 + n) fun e =>
        match clash (rows.headD 0) (usesO t s.h o.op) (touch s.h.length e) rs with
        | true => evOps P O pol all w0 K n (some rows.tail) (⟨usesO t s.h o.op, touch s.h.length e⟩ :: rs) r (putE { s with t := t } o.dst e)
        | false => .no (w0 + n)
    let skip (t : List PV) : Tr := match d with
      | none => evOps P O pol all w0 K n none [] r { s with t := putT t o.dst .und }
      | some rows => evOps P O pol all w0 K n (some rows.tail) (⟨[], []⟩ :: rs) r { s with t := putT t o.dst .und }
    match o.guard with
    | none => go s.t
    | some (j, w) => match (all[j]?).bind (·.dst) with
      | none => .no 3
      | some g =>
        match s.t.getD g .any with
        | .bl true => match w with | true => go s.t | false => skip s.t
        | .bl false => match w with | true => skip s.t | false => go s.t
        | .b x => match w with
          | true => .br x (go (s.t.set g (.bl true))) (skip (s.t.set g (.bl false)))
          | false => .br x (skip (s.t.set g (.bl true))) (go (s.t.set g (.bl false)))
        | .und => skip s.t
        | _ => .no 4

/-! ### The loop's state: the live temporaries, own blocks numbered anew as they are met. -/
def posOf (b : Nat) : List Nat → Nat → Option Nat
  | [], _ => none
  | c :: r, n => match c == b with | true => some n | false => posOf b r (n + 1)
def renum (ids : List Nat) (b : Nat) : Nat × List Nat :=
  match posOf b ids 0 with
  | some n => (n, ids)
  | none => (ids.length, ids ++ [b])
def renL (g : PV → List Nat → Option (PV × List Nat)) : List PV → List Nat → Option (List PV × List Nat)
  | [], ids => some ([], ids)
  | v :: vs, ids => match g v ids with
    | some (w, ids') => match renL g vs ids' with
      | some (ws, ids'') => some (w :: ws, ids'')
      | none => none
    | none => none
def renV : Nat → PV → List Nat → Option (PV × List Nat)
  | 0, _, _ => none
  | d + 1, v, ids => match v with
    | .sl b e off len => match renum ids b with | (n, ids') => some (.sl n e off len, ids')
    | .ptr b e i off p => match renum ids b with | (n, ids') => some (.ptr n e i off p, ids')
    | .agg vs => match renL (renV d) vs ids with | some (ws, ids') => some (.agg ws, ids') | none => none
    | .tup vs => match renL (renV d) vs ids with | some (ws, ids') => some (.tup ws, ids') | none => none
    | .clo f vs => match renL (renV d) vs ids with | some (ws, ids') => some (.clo f ws, ids') | none => none
    | .ifc t w => match renV d w ids with | some (w', ids') => some (.ifc t w', ids') | none => none
    | v => some (v, ids)
def renB (b : Option Blk) (ids : List Nat) : Option (Option Blk × List Nat) :=
  match b with
  | some ⟨e, .vals vs⟩ => match renL (renV 6) vs ids with | some (ws, ids') => some (some ⟨e, .vals ws⟩, ids') | none => none
  | b => some (b, ids)
def renH (h : Heap) : Nat → List Nat → Heap → Option (List Nat × Heap)
  | 0, _, _ => none
  | n + 1, ids, acc => match ids[acc.length]? with
    | none => some (ids, acc)
    | some b => match renB (hget h b) ids with
      | some (kb, ids') => renH h n ids' (acc ++ [kb])
      | none => none
def saveS (m : Nat) (live : List Nat) (s : St) : Option LS :=
  match renL (renV 6) (live.map fun d => s.t.getD d .any) (upto 0 m) with
  | some (ts, ids) => match renH s.h 60 ids [] with
    | some (_, h) => some ⟨ts, h⟩
    | none => none
  | none => none
def loadT : List Nat → List PV → List PV → List PV
  | d :: ds, v :: vs, t => loadT ds vs (t.set d v)
  | _, _, t => t
def loadS (n : Nat) (live : List Nat) (ls : LS) : St := ⟨loadT live ls.t (List.replicate n .any), ls.h⟩

def firstReg : Code → Nat
  | .region id _ _ => id
  | .seq a _ => firstReg a
  | .block _ a => firstReg a
  | .loop a => firstReg a
  | _ => 0

/-- A function's code: n temporaries, and m blocks that came in. -/
def evC (P : Program) (O : Orc) (L : Lps) (pol : Pol) (n m : Nat) : Code → (Exit → St → Tr) → St → Tr
  | .skip, K, s => K .normal s
  | .region id ops dr, K, s => match dr with
    | false => evOps P O pol ops (1000 * (id + 1)) (K .normal) (ops.size + 1) none [] ops.toList s
    | true => match rowsOf ops ops.toList [] [] with
      | some rows => evOps P O pol ops (1000 * (id + 1)) (K .normal) (ops.size + 1) (some rows) [] ops.toList s
      | none => .no 12
  | .seq a b, K, s => evC P O L pol n m a (fun e s' => match e with | .normal => evC P O L pol n m b K s' | e => K e s') s
  | .cond c a b, K, s => match evO s.t c with
    | .b x => .br x (evC P O L pol n m a K s) (evC P O L pol n m b K s)
    | .bl true => evC P O L pol n m a K s
    | .bl false => evC P O L pol n m b K s
    | _ => .no 5
  | .block id a, K, s => evC P O L pol n m a (fun e s' => match e with
    | .exit j => match j == id with | true => K .normal s' | false => K (.exit j) s'
    | e => K e s') s
  | .loop a, K, s => match assoc (firstReg a) pol.live, Lps.look (firstReg a) L with
    | some live, some sp => match saveS m live s with
      | some ls => sp ls fun e ls => K e (loadS n live ls)
      | none => .no 13
    | _, _ => .no 6
  | .exit j, K, s => K (.exit j) s
  | .ret, K, s => K .ret s
  | _, _, _ => .no 7

/-- One round of a loop: what goes on, or goes out. -/
def evRound (P : Program) (O : Orc) (L : Lps) (pol : Pol) (n m : Nat) (live : List Nat) (a : Code) (ls : LS) : Tr :=
  evC P O L pol n m a (fun e s => match saveS m live s with
    | some ls' => .ok (.out e ls')
    | none => .no 14) (loadS n live ls)

/-! ### The end of a function -/
/-- A result, the blocks that views reach, the blocks that are handed over, what is to be tested. -/
structure Out where
  v : PV
  vw : List Nat
  gv : List Nat
  ok : Option Bool
structure Outs where
  v : List PV
  vw : List Nat
  gv : List Nat
  ok : Option Bool
def viewO (h : Heap) (d : Nat) (v : PV) : Option Out := match frz h d v with
  | some w => some ⟨w, deep h d v, [], frzOk h d v⟩
  | none => none
def deepC (h : Heap) (d : Nat) : Cont → List Nat
  | .vals vs => vs.flatMap (deep h d)
  | _ => []
/-- A result leaves: own blocks that came in keep their numbers, others are handed over. -/
def fresh1 (m : Nat) (h : Heap) (d : Nat) (v : PV) : Option Out :=
  match v with
  | .sl b e off len => match Nat.blt b m with
    | true => some ⟨.sl b e off len, [], [], none⟩
    | false => match hget h b, off with
      | some k, 0 => match k.e == e && lenOk k.c len with
        | true => match frzC (frz h d) (k.c.cut 0 len) with
          | some c => some ⟨.fr e c, deepC h d (k.c.cut 0 len), [b], oand (lenC k.c len) (frzCO (frzOk h d) (k.c.cut 0 len))⟩
          | none => none
        | false => none
      | _, _ => viewO h d v
  | .ptr b e i off p => match Nat.blt b m with
    | true => some ⟨.ptr b e i off p, [], [], none⟩
    | false => viewO h d v
  | v => viewO h d v
def freshL (m : Nat) (h : Heap) (d : Nat) : List PV → Option Outs
  | [] => some ⟨[], [], [], none⟩
  | v :: vs => match fresh1 m h d v with
    | some o => match freshL m h d vs with
      | some p => some ⟨o.v :: p.v, o.vw ++ p.vw, o.gv ++ p.gv, oand o.ok p.ok⟩
      | none => none
    | none => none
def freshA (m : Nat) (h : Heap) (v : PV) : Option Out :=
  match v with
  | .agg vs => match freshL m h 6 vs with
    | some p => some ⟨.agg p.v, p.vw, p.gv, p.ok⟩
    | none => none
  | v => fresh1 m h 6 v
def freshT (m : Nat) (h : Heap) : List PV → Option Outs
  | [] => some ⟨[], [], [], none⟩
  | v :: vs => match freshA m h v with
    | some o => match freshT m h vs with
      | some p => some ⟨o.v :: p.v, o.vw ++ p.vw, o.gv ++ p.gv, oand o.ok p.ok⟩
      | none => none
    | none => none
def nodupB : List Nat → Bool
  | [] => true
  | b :: r => !r.contains b && nodupB r
/-- What came in is not reached by views, what is handed over is reached once. -/
def endOk (m : Nat) (vw gv : List Nat) : Bool := vw.all (fun b => Nat.ble m b) && nodupB gv && disj gv vw
def firstM (h : Heap) : Nat → Option (List Blk)
  | 0 => some []
  | m + 1 => match firstM h m, hget h m with
    | some l, some k => match frzC (frz [] 6) k.c with
      | some c => some (l ++ [⟨k.e, c⟩])
      | none => none
    | _, _ => none
def resV (P : Program) (s : St) : ResultVar → Option PV
  | .tmp k => some (s.t.getD k .any)
  | .cell a T => match ldC s.h (s.t.getD a .any) with
    | none => ldO P T s.h (s.t.getD a .any)
    | some _ => none
def resL (P : Program) (s : St) : List ResultVar → Option (List PV)
  | [] => some []
  | r :: rs => match resV P s r with
    | some v => match resL P s rs with
      | some vs => some (v :: vs)
      | none => none
    | none => none
def one (rs : List PV) : PV := match rs with | [r] => r | rs => .tup rs
def oneOk (rs : List PV) : Bool := match rs with | [.tup _] => false | _ => true
def endF (P : Program) (fn : Func) (m : Nat) (K : PV → List Blk → Tr) (s : St) : Tr :=
  match resL P s fn.results.toList, firstM s.h m with
  | some vs, some hs => match freshT m s.h vs with
    | some p => match endOk m p.vw p.gv && oneOk p.v with
      | true => brO p.ok (K (one p.v) hs) 15
      | false => .no 15
    | none => .no 9
  | _, _ => .no 8
/-- A function, and what is done with its result. -/
def evF (P : Program) (O : Orc) (L : Lps) (pol : Pol) (fn : Func) (args : List PV) (hs : List Blk) (K : PV → List Blk → Tr) : Tr :=
  match fn.body with
  | some c => match Nat.ble args.length fn.ntmps with
    | true => evC P O L pol fn.ntmps hs.length c (fun e s => match e with
      | .ret => endF P fn hs.length K s
      | .normal => endF P fn hs.length K s
      | _ => .no 10) ⟨args ++ List.replicate (fn.ntmps - args.length) .any, hs.map some⟩
    | false => .no 16
  | none => .no 11

end Go.Proofs.YtejfdhcigkgbmaaDoor.PE
/-! Calls. -/
namespace Go.Proofs.YtejfdhcigkgbmaaDoor.PE
open Go

/-- A call of function g ends with a value. -/
def Does (P : Program) (g : FuncId) (vs : Array Value) (w : World) (R : Value → World → Prop) : Prop :=
  ∀ (o : Oper) (a : Act) (K : Act → World → Prop) (Q : Exit → Act → World → Prop), (∀ v w', R v w' → K (a.put o.dst v) w') → o.upon P a K Q ((callFunc g vs).run P w)
theorem Does.mono {P : Program} {g : FuncId} {vs : Array Value} {w : World} {R R' : Value → World → Prop} (h : Does P g vs w R) (hr : ∀ v w', R v w' → R' v w') : Does P g vs w R' :=
  fun o a K Q hK => h o a K Q fun v w' hv => hK v w' (hr v w' hv)
/-- What a call leaves behind. -/
structure CPost (w w' : World) (S S' : Nat → Prop) (μ μ' : Mu) (m : Nat) (r : PV) (hs nbs : List Blk) (v : Value) : Prop where
  os : w'.os = w.os
  tape : w'.tape = w.tape
  output : w'.output = w.output
  size : w.heap.size ≤ w'.heap.size
  old : ∀ n, n < w.heap.size → (∀ b z, b < m → μ b ≠ some (n, z)) → w'.heap[n]? = w.heap[n]?
  subS : ∀ n, S n → S' n
  newS : ∀ n, S' n → S n ∨ (w.heap.size ≤ n ∧ n < w'.heap.size)
  mu : ∀ b, b < m → μ' b = μ b
  rep : RepV w' S' μ' r v
  wr : ∀ j k, hs[j]? = some k → ∃ a z, μ j = some (a, z) ∧ BlkRel w' S' noMu k a z
  nw : ∀ j k, nbs[j]? = some k → ∃ a z, μ' (m + j) = some (a, z) ∧ BlkRel w' S' noMu k a z ∧ ¬ S' a ∧ w.heap.size ≤ a
  nwInj : ∀ j j' a z z', j < nbs.length → j' < nbs.length → μ' (m + j) = some (a, z) → μ' (m + j') = some (a, z') → j = j'
/-- A call of g with these arguments, of this memory, has this result and leaves this memory. -/
def PC (P : Program) (G : World → (Nat → Prop) → Prop) (g : Nat) (args : List PV) (hs : List Blk) (r : PV) (hs' : List Blk) : Prop :=
  ∀ (w : World) (S : Nat → Prop) (μ : Mu) (vs : List Value), G w S → RepVL w S μ args vs → HRel w S μ (hget (hs.map some)) → (∀ b, hs.length ≤ b → μ b = none) →
    Does P g vs.toArray w fun v w' => ∃ S' μ', CPost w w' S S' μ μ' hs.length (unfr hs.length r).1 hs' (unfr hs.length r).2 v
def SpecOK (P : Program) (G : World → (Nat → Prop) → Prop) (g : Nat) (sp : Spec) : Prop :=
  ∀ (args : List PV) (hs : List Blk) (K : PV → List Blk → Tr) (x : Res), (sp args hs K).run = some x → ∃ r hs', PC P G g args hs r hs' ∧ (K r hs').run = some x
def OrcOK (P : Program) (G : World → (Nat → Prop) → Prop) (O : Orc) : Prop := ∀ g sp, Orc.look g O = some sp → SpecOK P G g sp
def GOk (G : World → (Nat → Prop) → Prop) : Prop := ∀ w w' S S', Mono w w' S S' → G w S → G w' S'

def muOf (μ : Mu) (ids : List Nat) : Mu := fun j => match ids[j]? with | some b => μ b | none => none

section
variable {P : Program} {w : World} {S S2 : Nat → Prop} {μ : Mu} {h : Heap}

theorem BlkRel.noRefs {k : Blk} {a z : Nat} (hn : k.c.noRefs = true) (hb : BlkRel w S μ k a z) : BlkRel w S noMu k a z := by
  obtain ⟨c, T, cs, h1, h2, h3, h4, h5, h6⟩ := hb
  refine ⟨c, T, cs, h1, h2, h3, fun i hi => ?_, h5, h6⟩
  have h7 := h4 i hi
  cases hc : k.c with
  | vals vs =>
    rw [hc] at h7 hn hi
    simp only [Cont.noRefs] at hn
    simp only [Cont.len] at hi
    have hm : (Cont.vals vs).get i ∈ vs := by
      simp only [Cont.get, List.getD]
      rw [List.getElem?_eq_getElem hi]
      exact List.getElem_mem hi
    exact (noRef_rep 8 _ _ (List.all_eq_true.1 hn _ hm)).1 _ h7
  | _ => rw [hc] at h7; exact h7
theorem hget_lt {b : Nat} {k : Blk} (hb : hget h b = some k) : b < h.length := by
  unfold hget at hb
  split at hb
  · rename_i hx; exact (List.getElem?_eq_some_iff.1 hx).1
  · cases hb
theorem hget_map {hs : List Blk} {b : Nat} : hget (hs.map some) b = hs[b]? := by
  unfold hget
  rw [List.getElem?_map]
  cases hs[b]? <;> rfl

theorem muOf_app (μ : Mu) (ids tl : List Nat) (j : Nat) (hj : j < ids.length) : muOf μ (ids ++ tl) j = muOf μ ids j := by
  simp [muOf, List.getElem?_append_left hj]
structure PassOK (h : Heap) (ps : Pass) : Prop where
  len : ps.blks.length = ps.ids.length
  at_ : ∀ (j b : Nat), ps.ids[j]? = some b → ∃ k, ps.blks[j]? = some k ∧ hget h b = some k ∧ k.c.noRefs = true
  nodup : ps.ids.Nodup

theorem PassOK.snoc {ps : Pass} {b : Nat} {k : Blk} (hp : PassOK h ps) (hb : hget h b = some k) (hn : k.c.noRefs = true) (hc : ps.ids.contains b = false) (ags : List PV) (q : Option Bool) :
    PassOK h ⟨ags, ps.ids ++ [b], ps.blks ++ [k], q⟩ := by
  refine ⟨by simp [hp.len], fun j c hj => ?_, ?_⟩
  · simp only at hj ⊢
    by_cases hlt : j < ps.ids.length
    · rw [List.getElem?_append_left hlt] at hj
      obtain ⟨k', h1, h2⟩ := hp.at_ j c hj
      exact ⟨k', by rw [List.getElem?_append_left (by rw [hp.len]; exact hlt)]; exact h1, h2⟩
    · rw [List.getElem?_append_right (by omega)] at hj
      have hj0 : j - ps.ids.length = 0 := by
        have := (List.getElem?_eq_some_iff.1 hj).1
        simpa using this
      rw [hj0] at hj
      simp at hj; subst hj
      exact ⟨k, by rw [List.getElem?_append_right (by rw [hp.len]; omega), hp.len, hj0]; rfl, hb, hn⟩
  · simp only
    rw [List.nodup_append]
    refine ⟨hp.nodup, by simp, fun x hx y hy => ?_⟩
    simp at hy; subst hy
    intro he; subst he
    simp at hc
    exact hc hx

theorem brO_run {o : Option Bool} {x : Tr} {n : Nat} {r : Res} (h : (brO o x n).run = some r) : holds o ∧ x.run = some r := by
  cases o with
  | none => exact ⟨trivial, h⟩
  | some b => cases b with
    | true => exact ⟨rfl, h⟩
    | false => cases h
theorem pass_rep (hS : ∀ n, S n → S2 n) (hh : HRel w S μ (hget h)) {m : List Nat} : ∀ (vs : List PV) (j : Nat) (xs : List Value) (ps : Pass), passO h m j vs = some ps → holds ps.ok → RepVL w S μ vs xs →
    Reach μ h S2 (seen h m j vs) → PassOK h ps ∧ ∀ tl, RepVL w S2 (muOf μ (ps.ids ++ tl)) ps.args xs
  | [], j, xs, ps, hp, _, hr, _ => by
    cases hr
    simp [passO] at hp; subst hp
    exact ⟨⟨rfl, fun j b h => by simp at h, .nil⟩, fun tl => .nil _⟩
  | v :: vs, j, xs, ps, hp, hok, hr, hrch => by
    have hm : Mono w w S S2 := ⟨hS, fun _ _ _ => rfl⟩
    simp only [passO] at hp
    split at hp
    case h_1 => cases hp
    rename_i r hr0
    cases hr with
    | cons _ _ _ x xs hx hxs =>
    simp only [seen] at hrch
    split at hp
    · rename_i hc
      rw [hc] at hrch
      simp only at hrch
      split at hp
      case h_2 => cases hp
      rename_i u hu
      simp at hp; subst hp
      obtain ⟨ih1, ih2⟩ := pass_rep hS hh vs (j + 1) xs r hr0 (holds_oand hok).2 hxs (hrch.sub fun b hb => List.mem_append.2 (.inr hb))
      have h1 := (frz_rep hS hh 6 v u (holds_oand hok).1 (hrch.sub fun b hb => List.mem_append.2 (.inl hb)) hu).2 x hx
      exact ⟨⟨ih1.len, ih1.at_, ih1.nodup⟩, fun tl => .cons _ _ _ _ _ (h1.mono ⟨fun _ h => h, fun _ _ _ => rfl⟩ (MuLe.none _)) (ih2 tl)⟩
    · rename_i hc
      rw [hc] at hrch
      simp only at hrch
      have ih := fun hok => pass_rep hS hh vs (j + 1) xs r hr0 hok hxs hrch
      have key : ∀ (b : Nat) (k : Blk), hget h b = some k → ∀ tl, muOf μ (r.ids ++ [b] ++ tl) r.ids.length = μ b := by
        intro b k _ tl
        simp [muOf]
      split at hp
      · rename_i b e off len
        split at hp
        case h_2 => cases hp
        rename_i k hk hcon
        split at hp
        case h_2 => cases hp
        rename_i hn
        simp at hp; subst hp
        obtain ⟨ih1, ih2⟩ := ih hok
        refine ⟨ih1.snoc hk hn hcon _ _, fun tl => ?_⟩
        have h2 := ih2 ([b] ++ tl)
        rw [← List.append_assoc] at h2
        refine .cons _ _ _ _ _ ?_ h2
        cases hx with
        | agg _ _ _ hv => cases hv
        | cell _ _ _ _ hx =>
          cases hx with
          | sl =>
            exact .cell _ _ _ rfl (.sl _ _ _ _ _ _ _ _ _ ((key b k hk tl).trans (by assumption)) (by assumption) (by assumption) (by assumption))
      · rename_i b e i off p
        split at hp
        case h_2 => cases hp
        rename_i k hk hcon
        split at hp
        case h_2 => cases hp
        rename_i hn
        simp at hp; subst hp
        obtain ⟨ih1, ih2⟩ := ih hok
        refine ⟨ih1.snoc hk hn hcon _ _, fun tl => ?_⟩
        have h2 := ih2 ([b] ++ tl)
        rw [← List.append_assoc] at h2
        refine .cons _ _ _ _ _ ?_ h2
        cases hx with
        | agg _ _ _ hv => cases hv
        | cell _ _ _ _ hx =>
          cases hx with
          | ptr _ _ _ _ _ _ a z h1 =>
            exact .cell _ _ _ rfl (.ptr _ _ _ _ _ _ a z ((key b k hk tl).trans h1))
      · simp at hp; subst hp
        obtain ⟨ih1, ih2⟩ := ih hok
        refine ⟨⟨ih1.len, ih1.at_, ih1.nodup⟩, fun tl => .cons _ _ _ _ _ ?_ (ih2 tl)⟩
        rw [repV_nil hx]
        exact .cell _ _ _ rfl (.nil _)
      · cases hp

theorem bk_rep {w : World} {S : Nat → Prop} {μ μ2 : Mu} {ids : List Nat} (hμ : ∀ b c, ids[b]? = some c → ∀ r, μ b = some r → μ2 c = some r) :
    ∀ (d : Nat) (v v' : PV), bk ids d v = some v' → (∀ cs, RepC w S μ v cs → RepC w S μ2 v' cs) ∧ (∀ x, RepV w S μ v x → RepV w S μ2 v' x)
  | 0, _, _, h => by simp [bk] at h
  | d + 1, v, v', hf => by
    have ihL : ∀ (vs ws : List PV) (cs : List Value), mapO (bk ids d) vs = some ws → RepL w S μ vs cs → RepL w S μ2 ws cs := by
      intro vs
      induction vs with
      | nil => intro ws cs h hr; cases hr; simp [mapO] at h; subst h; exact .nil _
      | cons u us ih =>
        intro ws cs h hr
        simp only [mapO] at h
        split at h
        case h_2 => cases h
        rename_i u' hu
        split at h
        case h_2 => cases h
        rename_i us' hus
        simp at h; subst h
        cases hr with
        | cons _ _ _ c1 c2 h1 h2 => exact .cons _ _ _ _ _ ((bk_rep hμ d u u' hu).1 _ h1) (ih _ _ hus h2)
    have ihVL : ∀ (vs ws : List PV) (xs : List Value), mapO (bk ids d) vs = some ws → RepVL w S μ vs xs → RepVL w S μ2 ws xs := by
      intro vs
      induction vs with
      | nil => intro ws cs h hr; cases hr; simp [mapO] at h; subst h; exact .nil _
      | cons u us ih =>
        intro ws cs h hr
        simp only [mapO] at h
        split at h
        case h_2 => cases h
        rename_i u' hu
        split at h
        case h_2 => cases h
        rename_i us' hus
        simp at h; subst h
        cases hr with
        | cons _ _ _ c1 c2 h1 h2 => exact .cons _ _ _ _ _ ((bk_rep hμ d u u' hu).2 _ h1) (ih _ _ hus h2)
    have hC : ∀ cs, RepC w S μ v cs → isAgg v' = isAgg v ∧ RepC w S μ2 v' cs := by
      intro cs hr
      cases hr <;> simp only [bk] at hf
      case b => simp at hf; subst hf; exact ⟨rfl, .b _ _⟩
      case bl => simp at hf; subst hf; exact ⟨rfl, .bl _ _⟩
      case i => simp at hf; subst hf; exact ⟨rfl, .i _ _ _⟩
      case s => simp at hf; subst hf; exact ⟨rfl, .s _ _⟩
      case q => simp at hf; subst hf; exact ⟨rfl, .q _ _ _ (by assumption)⟩
      case agg vs hr =>
        split at hf
        case h_2 => cases hf
        rename_i ws hws
        simp at hf; subst hf
        exact ⟨rfl, .agg _ _ _ (ihL vs ws cs hws hr)⟩
      case nil => simp at hf; subst hf; exact ⟨rfl, .nil _⟩
      case lst e c a o cap cs' h1 h2 h3 h4 h5 =>
        simp at hf; subst hf
        exact ⟨rfl, .lst _ e c a o cap cs' h1 h2 h3 h4 h5⟩
      case ref u a o cs' h1 h2 h3 =>
        simp at hf; subst hf
        exact ⟨rfl, .ref _ u a o cs' h1 h2 h3⟩
      case sl b e off len a z o cap hcap hz ho hb =>
        split at hf
        case h_2 => cases hf
        rename_i c hc
        simp at hf; subst hf
        exact ⟨rfl, .sl _ _ _ _ _ _ _ _ _ (hμ _ _ hc _ (by assumption)) (by assumption) (by assumption) (by assumption)⟩
      case ptr b e i off p a z hb =>
        split at hf
        case h_2 => cases hf
        rename_i c hc
        simp at hf; subst hf
        exact ⟨rfl, .ptr _ _ _ _ _ _ a z (hμ _ _ hc _ hb)⟩
      case clo f caps xs hr =>
        split at hf
        case h_2 => cases hf
        rename_i ws hws
        simp at hf; subst hf
        exact ⟨rfl, .clo _ _ _ _ (ihVL caps ws xs hws hr)⟩
      case nilf => simp at hf; subst hf; exact ⟨rfl, .nilf _⟩
      case ifc T u x hr =>
        split at hf
        case h_2 => cases hf
        rename_i u' hu'
        simp at hf; subst hf
        exact ⟨rfl, .ifc _ _ _ _ ((bk_rep hμ d u u' hu').2 x hr)⟩
      case nili => simp at hf; subst hf; exact ⟨rfl, .nili _⟩
      case nilp => simp at hf; subst hf; exact ⟨rfl, .nilp _⟩
      case w u x hr => simp at hf; subst hf; exact ⟨rfl, .w _ u x hr⟩
    refine ⟨fun cs hr => (hC cs hr).2, fun x hr => ?_⟩
    cases hr with
    | cell _ _ _ hv hr => obtain ⟨h1, h2⟩ := hC _ hr; exact .cell _ _ _ (h1.trans hv) h2
    | agg _ _ _ hv hr => obtain ⟨h1, h2⟩ := hC _ hr; exact .agg _ _ _ (h1.trans hv) h2
    | und => simp [bk] at hf; subst hf; exact .und _
    | any => simp [bk] at hf; subst hf; exact .any _ _
    | tup _ vs xs hr =>
      simp only [bk] at hf
      split at hf
      case h_2 => cases hf
      rename_i ws hws
      simp at hf; subst hf
      exact .tup _ _ _ (ihVL vs ws xs hws hr)
end
end Go.Proofs.YtejfdhcigkgbmaaDoor.PE
/-! An operation, calls among them. -/
namespace Go.Proofs.YtejfdhcigkgbmaaDoor.PE
open Go

def OpOKG (P : Program) (G : World → (Nat → Prop) → Prop) (t : List PV) (id : Nat) (hf : Nat → Option Blk) (o : Oper) (e : Eff) : Prop :=
  ∀ (w : World) (S : Nat → Prop) (μ : Mu) (a : Act) (K : Act → World → Prop) (Q : Exit → Act → World → Prop), G w S →
    (∀ x, x ∈ o.op.operands → RepV w S μ (evO t x) (a.eval x)) → HRel w S μ hf → (∀ j, j < e.2.2.length → μ (id + j) = none) →
    (∀ v w' S' μ', Post w w' S S' μ μ' id e v → K (a.put o.dst v) w') → o.wp P a w K Q
structure EffOK (hf : Nat → Option Blk) (e : Eff) : Prop where
  hl : ∀ b k, (b, k) ∈ e.2.1 → ∃ kb, hf b = some kb
  hnd : ∀ b k k', (b, k) ∈ e.2.1 → (b, k') ∈ e.2.1 → k = k'
section
variable {P : Program} {G : World → (Nat → Prop) → Prop} {t : List PV} {id : Nat} {h : Heap} {o : Oper} {e : Eff}
theorem EffOK.none {hf : Nat → Option Blk} {v : PV} {n : List Blk} : EffOK hf (v, [], n) := ⟨(fun _ _ h => by cases h), (fun _ _ _ h => by cases h)⟩
theorem EffOK.one {hf : Nat → Option Blk} {v : PV} {b : Nat} {k : Option Blk} {n : List Blk} {kb : Blk} (hb : hf b = some kb) : EffOK hf (v, [(b, k)], n) :=
  ⟨fun c k' h => by simp at h; exact ⟨kb, by rw [h.1]; exact hb⟩, fun c k1 k2 h1 h2 => by simp at h1 h2; rw [h1.2, h2.2]⟩
theorem noW_ofO {o : Option PV} {e : Eff} {hf : Nat → Option Blk} (h : (ofO o).has e) : EffOK hf e := by
  obtain ⟨v, _, rfl⟩ := has_ofO.1 h; exact .none
theorem noW_withB {r : Option (Option Bool × Nat × Nat)} {f : Nat → Nat → PV} {e : Eff} {hf : Nat → Option Blk} (h : (withB r f).has e) : EffOK hf e := by
  unfold withB at h
  repeat' split at h
  · simp at h; subst h; exact .none
  · simp at h; rw [h.2]; exact .none
  · simp at h
theorem noW_eq {v : PV} {e : Eff} {hf : Nat → Option Blk} (h : e = (v, [], [])) : EffOK hf e := by subst h; exact .none
theorem popV_eff {own : Bool} (hp : (popV P own t id h o.op).has e) : EffOK (hget h) e := by
  cases ho : o.op <;> rw [ho] at hp <;> simp only [popV] at hp
  case store T x y =>
    replace hp := (has_withC hp).2
    split at hp
    case h_2 => simp at hp
    rename_i ww hww
    simp at hp; subst hp
    unfold stO at hww
    repeat' split at hww
    all_goals first | (cases hww; done) | skip
    cases hww
    exact .one (by assumption)
  case call c =>
    split at hp
    case h_2 => simp at hp
    split at hp
    case h_1 =>
      unfold lenO at hp
      repeat' split at hp
      all_goals (simp at hp; try first | (subst hp; exact .none) | (obtain ⟨_, rfl⟩ := hp; exact .none))
    case h_2 =>
      unfold minO at hp
      repeat' split at hp
      all_goals (simp at hp; try (subst hp; exact .none))
    case h_3 =>
      unfold maxO at hp
      repeat' split at hp
      all_goals (simp at hp; try (subst hp; exact .none))
    case h_4 =>
      split at hp
      case h_2 => simp at hp
      unfold appO at hp
      split at hp
      case h_1 => simp at hp
      split at hp
      case h_2 => simp at hp
      split at hp
      case h_1 => simp at hp
      split at hp
      case h_1 => simp at hp
      replace hp := (has_withC hp).2
      repeat' split at hp
      all_goals first | (simp at hp; done) | skip
      · simp at hp; subst hp; exact .none
      · simp at hp; rw [hp.2]; exact .none
      · replace hp := (has_withC hp).2
        simp at hp; rw [hp.2]; exact .one (by assumption)
    case h_5 => simp at hp
  case slice T x lo hi mx =>
    cases mx with
    | some m => simp at hp
    | none =>
      simp only at hp
      unfold slcO at hp
      repeat' split at hp
      all_goals first | (simp at hp; done) | exact noW_withB hp | exact noW_withB (has_withC hp).2
  case indexAddr T x ix =>
    unfold idxA at hp
    repeat' split at hp
    all_goals first | (simp at hp; done) | (simp at hp; rw [hp.2]; exact .none)
  case index T x ix =>
    unfold idxS at hp
    repeat' split at hp
    all_goals first | (simp at hp; done) | (simp at hp; rw [hp.2]; exact .none)
  case unOp op T x =>
    unfold unO at hp
    repeat' split at hp
    all_goals first | exact noW_eq (arS_has hp) | (simp at hp; done) | (simp at hp; subst hp; exact .none)
  case binOp op T x y T' =>
    unfold binO at hp
    repeat' split at hp
    all_goals first | (simp at hp; done) | (simp at hp; subst hp; exact .none) | (simp at hp; rw [hp.2]; exact .none) | skip
    unfold binI at hp
    repeat' split at hp
    all_goals first | exact noW_eq (arS_has hp) | exact noW_eq (arA_has hp) | exact noW_eq (arS_has (has_withC hp).2) | (simp at hp; done) | (simp at hp; subst hp; exact .none) | (simp at hp; rw [hp.2]; exact .none) | skip
  case convert s d x =>
    unfold cvtO at hp
    repeat' split at hp
    all_goals first | (simp at hp; done) | (simp at hp; subst hp; exact .none) | (simp at hp; rw [hp.2]; exact .none) | skip
  case load T x => exact noW_ofO (has_withC hp).2
  case makeFunc f first caps =>
    cases f with
    | func f =>
      simp only at hp
      split at hp
      · simp at hp; subst hp; exact .none
      · simp at hp
    | _ => simp at hp
  case extract x k =>
    split at hp
    · exact noW_ofO hp
    · simp at hp
  all_goals
    repeat' split at hp
    all_goals first | (simp at hp; done) | (simp at hp; subst hp; exact .none) | (simp at hp; rw [hp.2]; exact .none) | skip
end

/-! Helpers. -/
theorem upto_get : ∀ (n a j : Nat), j < n → (upto a n)[j]? = some (a + j)
  | 0, _, _, h => by omega
  | n + 1, a, 0, _ => by simp [upto]
  | n + 1, a, j + 1, h => by simp [upto, upto_get n (a + 1) j (by omega)]; omega
theorem upto_length : ∀ (n a : Nat), (upto a n).length = n
  | 0, _ => rfl
  | n + 1, a => by simp [upto, upto_length n]
theorem zipW_spec : ∀ (ids : List Nat) (hs : List Blk) (ws : Ws), zipW ids hs = some ws → hs.length = ids.length ∧
    (∀ (j b : Nat), ids[j]? = some b → ∃ k, hs[j]? = some k ∧ (b, some k) ∈ ws) ∧ (∀ b k, (b, k) ∈ ws → ∃ (j : Nat) (k' : Blk), ids[j]? = some b ∧ hs[j]? = some k' ∧ k = some k')
  | [], [], ws, h => by simp [zipW] at h; subst h; exact ⟨rfl, fun j b h => by simp at h, fun b k h => by simp at h⟩
  | [], _ :: _, _, h => by simp [zipW] at h
  | _ :: _, [], _, h => by simp [zipW] at h
  | i :: ids, x :: hs, ws, h => by
    simp only [zipW] at h
    split at h
    case h_2 => cases h
    rename_i r hr
    simp at h; subst h
    obtain ⟨h1, h2, h3⟩ := zipW_spec ids hs r hr
    refine ⟨by simp [h1], fun j b hj => ?_, fun b k hm => ?_⟩
    · cases j with
      | zero => simp at hj; subst hj; exact ⟨x, rfl, by simp⟩
      | succ j => simp at hj; obtain ⟨k, h4, h5⟩ := h2 j b hj; exact ⟨k, by simpa using h4, by simp [h5]⟩
    · simp at hm
      rcases hm with ⟨rfl, rfl⟩ | hm
      · exact ⟨0, x, rfl, rfl, rfl⟩
      · obtain ⟨j, k', h4, h5, h6⟩ := h3 b k hm
        exact ⟨j + 1, k', by simpa using h4, by simpa using h5, h6⟩
theorem nodup_get {l : List Nat} (h : l.Nodup) {i j b : Nat} (hi : l[i]? = some b) (hj : l[j]? = some b) : i = j := by
  obtain ⟨h1, h2⟩ := List.getElem?_eq_some_iff.1 hi
  obtain ⟨h3, h4⟩ := List.getElem?_eq_some_iff.1 hj
  exact (List.getElem_inj h).1 (h2.trans h4.symm)
theorem hget_nb {m : Nat} {nbs : List Blk} {b : Nat} {k : Blk} (h : hget (List.replicate m none ++ nbs.map some) b = some k) : m ≤ b ∧ nbs[b - m]? = some k := by
  unfold hget at h
  split at h
  case h_2 => cases h
  rename_i k' hk
  simp at h; subst h
  by_cases hb : b < m
  · rw [List.getElem?_append_left (by simpa using hb)] at hk
    simp [hb] at hk
  · rw [List.getElem?_append_right (by simp; omega)] at hk
    refine ⟨by omega, ?_⟩
    simpa [List.getElem?_map] using hk

section
variable {P : Program} {G : World → (Nat → Prop) → Prop} {w w' : World} {S : Nat → Prop} {μ : Mu} {h : Heap}
theorem seen_lt {see : List Nat} (hh : HRel w S μ (hget h)) {n : Nat} (hn : S n ∨ ∃ b ∈ see, ∃ k z, hget h b = some k ∧ μ b = some (n, z)) : n < w.heap.size := by
  rcases hn with hn | ⟨b, _, k, z, hk, hmu⟩
  · exact hh.lt n hn
  · obtain ⟨a, z', h1, h2⟩ := hh.blk b k hk
    have := hmu.symm.trans h1; cases this
    exact h2.lt
/-- The memory that a call is handed. -/
theorem pass_hrel (hh : HRel w S μ (hget h)) {ps : Pass} (hp : PassOK h ps) {see : List Nat} (hs : ps.ids.all (fun b => !see.contains b) = true) :
    HRel w (fun n => S n ∨ ∃ b ∈ see, ∃ k z, hget h b = some k ∧ μ b = some (n, z)) (muOf μ ps.ids) (hget (ps.blks.map some)) := by
  have hm : Mono w w S (fun n => S n ∨ ∃ b ∈ see, ∃ k z, hget h b = some k ∧ μ b = some (n, z)) := ⟨fun _ h => .inl h, fun _ _ _ => rfl⟩
  have at_ : ∀ j k, hget (ps.blks.map some) j = some k → ∃ b, ps.ids[j]? = some b ∧ hget h b = some k ∧ k.c.noRefs = true ∧ muOf μ ps.ids j = μ b := by
    intro j k hj
    rw [hget_map] at hj
    have hlt := (List.getElem?_eq_some_iff.1 hj).1
    rw [hp.len] at hlt
    have hb : ps.ids[j]? = some (ps.ids[j]'hlt) := List.getElem?_eq_getElem _
    obtain ⟨k', h1, h2, h3⟩ := hp.at_ j _ hb
    rw [hj] at h1; cases h1
    exact ⟨_, hb, h2, h3, by simp [muOf, hb]⟩
  refine ⟨fun j k hj => ?_, fun j k a z hj hmu hS => ?_, fun j j' k k' a z z' hj hj' hmu hmu' => ?_, fun a ha => seen_lt hh ha⟩
  · obtain ⟨b, h1, h2, h3, h4⟩ := at_ j k hj
    obtain ⟨a, z, h5, h6⟩ := hh.blk b k h2
    exact ⟨a, z, h4.trans h5, (h6.noRefs h3).mono hm (MuLe.none _) rfl⟩
  · obtain ⟨b, h1, h2, h3, h4⟩ := at_ j k hj
    rw [h4] at hmu
    rcases hS with hS | ⟨c, hc, kc, zc, hkc, hmuc⟩
    · exact hh.sep b k a z h2 hmu hS
    · have := hh.inj b c k kc a z zc h2 hkc hmu hmuc
      subst this
      have := List.all_eq_true.1 hs b (List.mem_of_getElem? h1)
      simp at this
      exact this hc
  · obtain ⟨b, h1, h2, h3, h4⟩ := at_ j k hj
    obtain ⟨b', h1', h2', h3', h4'⟩ := at_ j' k' hj'
    rw [h4] at hmu
    rw [h4'] at hmu'
    have := hh.inj b b' k k' a z z' h2 h2' hmu hmu'
    subst this
    exact nodup_get hp.nodup h1 h1'

/-- What a call leaves, for the caller. -/
theorem call_post {id : Nat} {ps : Pass} {see : List Nat} {r : PV} {hs' nbs : List Blk} {v : Value} {S' : Nat → Prop} {μ' : Mu} {ws : Ws}
    (hh : HRel w S μ (hget h)) (hp : PassOK h ps)
    (hc : CPost w w' (fun n => S n ∨ ∃ b ∈ see, ∃ k z, hget h b = some k ∧ μ b = some (n, z)) S' (muOf μ ps.ids) μ' ps.blks.length r hs' nbs v)
    (hz : zipW ps.ids hs' = some ws) (hf : (see.isEmpty || (flat 6 r && (nbs ++ hs').all (fun k => flatC k.c))) = true) :
    (∀ v', bk (ps.ids ++ upto id nbs.length) 6 r = some v' → (∀ j, j < nbs.length → μ (id + j) = none) → ∃ S2 μ2, Post w w' S S2 μ μ2 id (v', ws, nbs) v) ∧
    (∀ v', holds (frzOk (List.replicate ps.blks.length none ++ nbs.map some) 6 r) → frz (List.replicate ps.blks.length none ++ nbs.map some) 6 r = some v' → ∃ S2 μ2, Post w w' S S2 μ μ2 id (v', ws, []) v) := by
  obtain ⟨hz1, hz2, hz3⟩ := zipW_spec _ _ _ hz
  -- the new immutable memory
  let T : Nat → Prop := fun n => S n ∨ (S' n ∧ w.heap.size ≤ n)
  have T1 : RepV w' T μ' r v := by
    rcases Bool.or_eq_true_iff.1 hf with hf | hf
    · have hsee : see = [] := by simpa using hf
      refine hc.rep.mono ⟨fun n hn => ?_, fun _ _ _ => rfl⟩ (MuLe.refl _)
      rcases hc.newS n hn with (h | ⟨b, hb, _⟩) | h
      · exact .inl h
      · rw [hsee] at hb; cases hb
      · exact .inr ⟨hn, h.1⟩
    · simp only [Bool.and_eq_true] at hf
      exact (flat_rep 6 _ _ hf.1).2 _ hc.rep
  have T2 : ∀ k ∈ nbs ++ hs', ∀ a z, BlkRel w' S' noMu k a z → BlkRel w' T noMu k a z := by
    intro k hk a z hb
    rcases Bool.or_eq_true_iff.1 hf with hf | hf
    · have hsee : see = [] := by simpa using hf
      refine hb.mono ⟨fun n hn => ?_, fun _ _ _ => rfl⟩ (MuLe.refl _) rfl
      rcases hc.newS n hn with (h | ⟨b, hb, _⟩) | h
      · exact .inl h
      · rw [hsee] at hb; cases hb
      · exact .inr ⟨hn, h.1⟩
    · simp only [Bool.and_eq_true] at hf
      exact flatC_rep (List.all_eq_true.1 hf.2 k hk) hb
  have old : ∀ n, n < w.heap.size → (∀ b k z, (b, k) ∈ ws → μ b ≠ some (n, z)) → w'.heap[n]? = w.heap[n]? := by
    intro n hn hno
    refine hc.old n hn (fun b z hb => ?_)
    unfold muOf
    split
    · rename_i c hcb
      obtain ⟨k, _, h2⟩ := hz2 b c hcb
      exact hno c _ z h2
    · exact fun h => by cases h
  have newT : ∀ n, T n → S n ∨ (w.heap.size ≤ n ∧ n < w'.heap.size) := by
    intro n hn
    rcases hn with hn | ⟨h1, h2⟩
    · exact .inl hn
    · rcases hc.newS n h1 with h | h
      · have := seen_lt hh h; omega
      · exact .inr h
  have wr : ∀ b k, (b, some k) ∈ ws → ∃ a z, μ b = some (a, z) ∧ BlkRel w' T noMu k a z := by
    intro b k hb
    obtain ⟨j, k', h1, h2, h3⟩ := hz3 b _ hb
    cases h3
    obtain ⟨a, z, h4, h5⟩ := hc.wr j _ h2
    refine ⟨a, z, ?_, T2 _ (by simp [List.mem_of_getElem? h2]) _ _ h5⟩
    rw [← h4]; simp [muOf, h1]
  have nwT : ∀ j k, nbs[j]? = some k → ∃ a z, μ' (ps.blks.length + j) = some (a, z) ∧ BlkRel w' T noMu k a z ∧ ¬ T a ∧ w.heap.size ≤ a := by
    intro j k hj
    obtain ⟨a, z, h1, h2, h3, h4⟩ := hc.nw j k hj
    refine ⟨a, z, h1, T2 _ (by simp [List.mem_of_getElem? hj]) _ _ h2, fun hT => ?_, h4⟩
    rcases hT with hT | ⟨hT, _⟩
    · have := hh.lt a hT; omega
    · exact h3 hT
  refine ⟨fun v' hv' hmu => ?_, fun v' hok hv' => ?_⟩
  · let μ2 : Mu := fun b => if id ≤ b ∧ b < id + nbs.length then μ' (ps.blks.length + (b - id)) else μ b
    have hin : ∀ j, j < nbs.length → μ2 (id + j) = μ' (ps.blks.length + j) := by
      intro j hj
      simp only [μ2]
      rw [if_pos ⟨by omega, by omega⟩, show id + j - id = j by omega]
    refine ⟨T, μ2, ⟨hc.os, hc.tape, hc.output, hc.size, old, fun n hn => .inl hn, newT, ?_, fun b hb => ?_, fun b k hb => ?_, fun j k hj => ?_, fun j j' a z z' hj hj' h1 h2 => ?_⟩⟩
    · refine (bk_rep (fun b c hbc s hs => ?_) 6 _ _ hv').2 _ T1
      by_cases hb : b < ps.ids.length
      · rw [List.getElem?_append_left hb] at hbc
        rw [hc.mu b (by rw [hp.len]; exact hb)] at hs
        have hs' : μ c = some s := by rw [← hs]; simp [muOf, hbc]
        simp only [μ2]
        split
        · rename_i hr
          have := hmu (c - id) (by omega)
          rw [show id + (c - id) = c by omega, hs'] at this
          cases this
        · exact hs'
      · rw [List.getElem?_append_right (by omega)] at hbc
        have hlt := (List.getElem?_eq_some_iff.1 hbc).1
        rw [upto_length] at hlt
        rw [upto_get _ _ _ hlt] at hbc
        cases hbc
        rw [hin _ hlt, hp.len, show ps.ids.length + (b - ps.ids.length) = b by omega]
        exact hs
    · simp only [μ2]
      rw [if_neg]
      simp only at hb
      omega
    · obtain ⟨a, z, h1, h2⟩ := wr b k hb
      exact ⟨a, z, h1, h2.mono ⟨fun _ h => h, fun _ _ _ => rfl⟩ (MuLe.none _) rfl⟩
    · obtain ⟨a, z, h1, h2, h3, h4⟩ := nwT j k hj
      exact ⟨a, z, (hin j (List.getElem?_eq_some_iff.1 hj).1).trans h1, h2.mono ⟨fun _ h => h, fun _ _ _ => rfl⟩ (MuLe.none _) rfl, h3, .inl h4⟩
    · rw [hin j hj] at h1
      rw [hin j' hj'] at h2
      exact hc.nwInj j j' a z z' hj hj' h1 h2
  · let T' : Nat → Prop := fun n => T n ∨ ∃ j k z, nbs[j]? = some k ∧ μ' (ps.blks.length + j) = some (n, z)
    have hm : Mono w' w' T T' := ⟨fun _ h => .inl h, fun _ _ _ => rfl⟩
    have hH : HRel w' T μ' (hget (List.replicate ps.blks.length none ++ nbs.map some)) := by
      refine ⟨fun b k hb => ?_, fun b k a z hb hmu hT => ?_, fun b b' k k' a z z' hb hb' hmu hmu' => ?_, fun a ha => ?_⟩
      · obtain ⟨h1, h2⟩ := hget_nb hb
        obtain ⟨a, z, h3, h4, _⟩ := nwT _ _ h2
        rw [show ps.blks.length + (b - ps.blks.length) = b by omega] at h3
        exact ⟨a, z, h3, h4.mono ⟨fun _ h => h, fun _ _ _ => rfl⟩ (MuLe.none _) rfl⟩
      · obtain ⟨h1, h2⟩ := hget_nb hb
        obtain ⟨a', z', h3, h4, h5, _⟩ := nwT _ _ h2
        rw [show ps.blks.length + (b - ps.blks.length) = b by omega] at h3
        have := hmu.symm.trans h3; cases this
        exact h5 hT
      · obtain ⟨h1, h2⟩ := hget_nb hb
        obtain ⟨h1', h2'⟩ := hget_nb hb'
        have := hc.nwInj (b - ps.blks.length) (b' - ps.blks.length) a z z' (List.getElem?_eq_some_iff.1 h2).1 (List.getElem?_eq_some_iff.1 h2').1
          (by rw [show ps.blks.length + (b - ps.blks.length) = b by omega]; exact hmu) (by rw [show ps.blks.length + (b' - ps.blks.length) = b' by omega]; exact hmu')
        omega
      · rcases newT a ha with h | h
        · have := hh.lt a h; have := hc.size; omega
        · exact h.2
    refine ⟨T', μ, ⟨hc.os, hc.tape, hc.output, hc.size, old, fun n hn => .inl (.inl hn), fun n hn => ?_, ?_, fun b hb => rfl, fun b k hb => ?_, fun j k hj => by simp at hj, fun j j' a z z' hj => by simp at hj⟩⟩
    · rcases hn with hn | ⟨j, k, z, h1, h2⟩
      · exact newT n hn
      · obtain ⟨a, z', h3, h4, _, h5⟩ := nwT j k h1
        have := h2.symm.trans h3; cases this
        exact .inr ⟨h5, h4.lt⟩
    · refine ((frz_rep (fun n hn => .inl hn) hH 6 r v' hok (fun b _ k a z hk hmu => ?_) hv').2 _ T1).mono ⟨fun _ h => h, fun _ _ _ => rfl⟩ (MuLe.none _)
      obtain ⟨h1, h2⟩ := hget_nb hk
      exact .inr ⟨b - ps.blks.length, k, z, h2, by rw [show ps.blks.length + (b - ps.blks.length) = b by omega]; exact hmu⟩
    · obtain ⟨a, z, h1, h2⟩ := wr b k hb
      exact ⟨a, z, h1, h2.mono hm (MuLe.none _) rfl⟩
end
end Go.Proofs.YtejfdhcigkgbmaaDoor.PE
namespace Go.Proofs.YtejfdhcigkgbmaaDoor.PE
open Go
section
variable {P : Program} {G : World → (Nat → Prop) → Prop} {t : List PV} {id : Nat} {h : Heap} {o : Oper}
theorem exec_call {a : Act} {f : Operand} {args : Array Operand} {Ts : Array TypeId} {g : Nat} {caps : Array Value} (ho : o.op = .call ⟨.value f, args, Ts⟩) (hf : a.eval f = .func (.func g) #[] caps) :
    execOp a.eval o = callFunc g ((args.map a.eval) ++ caps) := by
  simp [execOp, ho, resolve, Deferred.ofValue, hf, invoke]
theorem pass_ok {m : List Nat} : ∀ (vs : List PV) (j : Nat) (ps : Pass), passO h m j vs = some ps → PassOK h ps
  | [], j, ps, hp => by
    simp [passO] at hp; subst hp
    exact ⟨rfl, fun j b h => by simp at h, .nil⟩
  | v :: vs, j, ps, hp => by
    simp only [passO] at hp
    split at hp
    case h_1 => cases hp
    rename_i r hr0
    have ih := pass_ok vs (j + 1) r hr0
    split at hp
    · split at hp
      case h_2 => cases hp
      simp at hp; subst hp
      exact ⟨ih.len, ih.at_, ih.nodup⟩
    · split at hp
      · split at hp
        case h_2 => cases hp
        rename_i k hk hcon
        split at hp
        case h_2 => cases hp
        rename_i hn
        simp at hp; subst hp
        exact ih.snoc hk hn hcon _ _
      · split at hp
        case h_2 => cases hp
        rename_i k hk hcon
        split at hp
        case h_2 => cases hp
        rename_i hn
        simp at hp; subst hp
        exact ih.snoc hk hn hcon _ _
      · simp at hp; subst hp
        exact ⟨ih.len, ih.at_, ih.nodup⟩
      · cases hp
theorem popO_ok (hG : GOk G) {O : Orc} (hO : OrcOK P G O) {wr : List (Nat × List Nat)} {own : Bool} {n : Nat} {K : Eff → Tr} {x : Res} (hp : (popO P O wr own t id h o.op n K).run = some x) :
    ∃ e, OpOKG P G t id (hget h) o e ∧ EffOK (hget h) e ∧ (K e).run = some x := by
  unfold popO at hp
  split at hp
  · rename_i g ags hcal
    split at hp
    case h_1 => cases hp
    rename_i sp hsp
    split at hp
    case h_1 => cases hp
    rename_i ps hps
    simp only at hp
    split at hp
    case h_1 => cases hp
    rename_i hsee
    obtain ⟨hpsok, hp⟩ := brO_run hp
    obtain ⟨r, hs', hPC, hq⟩ := hO g sp hsp _ _ _ _ hp
    clear hp
    split at hq
    case h_1 => cases hq
    rename_i ws hz
    split at hq
    case h_1 => cases hq
    rename_i hf
    have hpok0 := pass_ok _ _ _ hps
    have eff : ∀ v' nb, EffOK (hget h) (v', ws, nb) := by
      intro v' nb
      obtain ⟨hz1, hz2, hz3⟩ := zipW_spec _ _ _ hz
      refine ⟨fun b k hb => ?_, fun b k k' hb hb' => ?_⟩
      · obtain ⟨j, k', h1, h2, h3⟩ := hz3 b k hb
        obtain ⟨k2, _, h4, _⟩ := hpok0.at_ j b h1
        exact ⟨k2, h4⟩
      · obtain ⟨j, k1, h1, h2, h3⟩ := hz3 b k hb
        obtain ⟨j', k1', h1', h2', h3'⟩ := hz3 b k' hb'
        have := nodup_get hpok0.nodup h1 h1'
        subst this
        rw [h2] at h2'; cases h2'
        rw [h3, h3']
    -- the operation
    unfold callee at hcal
    split at hcal
    case h_2 => cases hcal
    rename_i op c ho
    split at hcal
    case h_2 => cases hcal
    rename_i cal f hc
    split at hcal
    case h_2 => cases hcal
    rename_i pv g' caps hclo
    simp at hcal
    obtain ⟨rfl, rfl⟩ := hcal
    have run : ∀ (e : Eff), e.2.1 = ws → (∀ (w w' : World) (S : Nat → Prop) (μ : Mu) (S' : Nat → Prop) (μ' : Mu) (v : Value), HRel w S μ (hget h) → PassOK h ps → (∀ j, j < e.2.2.length → μ (id + j) = none) →
        CPost w w' (fun n => S n ∨ ∃ b ∈ seen h ((assoc g' wr).getD []) 0 (c.args.toList.map (evO t) ++ caps), ∃ k z, hget h b = some k ∧ μ b = some (n, z)) S' (muOf μ ps.ids) μ' ps.blks.length (unfr ps.blks.length r).1 hs' (unfr ps.blks.length r).2 v →
        ∃ S2 μ2, Post w w' S S2 μ μ2 id e v) → GOk G → OpOKG P G t id (hget h) o e := by
      intro e he hpost hG w S μ a K Q hGw hr hh hmu hK
      have hm : Mono w w S (fun n => S n ∨ ∃ b ∈ seen h ((assoc g' wr).getD []) 0 (c.args.toList.map (evO t) ++ caps), ∃ k z, hget h b = some k ∧ μ b = some (n, z)) := ⟨fun _ h => .inl h, fun _ _ _ => rfl⟩
      have hrf := hr f (by simp [ho, Op.operands, Call.operands, hc])
      rw [hclo] at hrf
      obtain ⟨xs, hxs, hfv⟩ := repV_clo hrf
      have hall : RepVL w S μ (c.args.toList.map (evO t) ++ caps) (c.args.toList.map a.eval ++ xs) :=
        repVL_append (repVL_map _ fun x hx => hr x (by simp [ho, Op.operands, Call.operands]; exact .inr (by simpa using hx))) hxs
      obtain ⟨hpok, hargs⟩ := pass_rep (S2 := fun n => S n ∨ ∃ b ∈ seen h ((assoc g' wr).getD []) 0 (c.args.toList.map (evO t) ++ caps), ∃ k z, hget h b = some k ∧ μ b = some (n, z))
        (fun _ h => .inl h) hh _ 0 _ ps hps hpsok hall (fun b hb k a z hk hmu => .inr ⟨b, hb, k, z, hk, hmu⟩)
      have hargs0 := hargs []
      rw [List.append_nil] at hargs0
      have hd := hPC w _ (muOf μ ps.ids) _ (hG _ _ _ _ hm hGw) hargs0 (pass_hrel hh hpok hsee) (fun b hb => by
        unfold muOf
        rw [List.getElem?_eq_none (by rw [← hpok.len]; exact hb)])
      obtain ⟨cal, args, Ts⟩ := c
      simp only at hc
      subst hc
      unfold Oper.wp
      rw [exec_call ho hfv]
      have heq : Array.map a.eval args ++ xs.toArray = (List.map a.eval args.toList ++ xs).toArray := by
        apply Array.ext'; simp
      rw [heq]
      refine hd o a K Q fun v w' hv => ?_
      obtain ⟨S', μ', hcp⟩ := hv
      obtain ⟨S2, μ2, hpo⟩ := hpost w w' S μ S' μ' v hh hpok hmu hcp
      exact hK v w' S2 μ2 hpo
    split at hq
    · split at hq
      case h_2 => cases hq
      rename_i v' hv'
      refine ⟨(v', ws, _), run _ rfl (fun w w' S μ S' μ' v hh hpok hmu hcp => ?_) hG, ?_, hq⟩
      · exact (call_post hh hpok hcp hz hf).1 v' hv' hmu
      · exact eff v' _
    · split at hq
      case h_2 => cases hq
      rename_i v' hv'
      obtain ⟨hdem, hq⟩ := brO_run hq
      refine ⟨(v', ws, []), run _ rfl (fun w w' S μ S' μ' v hh hpok hmu hcp => ?_) hG, ?_, hq⟩
      · exact (call_post (id := id) hh hpok hcp hz hf).2 v' hdem hv'
      · exact eff v' _
  · split at hp
    · cases hp
    · rename_i e hpv
      have hhas : (popV P own t id h o.op).has e := by rw [hpv]; rfl
      exact ⟨e, fun w S μ a K Q _ => popV_ok hhas w S μ a K Q, popV_eff hhas, hp⟩
    · rename_i b e hpv
      cases b with
      | false => cases hp
      | true =>
        have hhas : (popV P own t id h o.op).has e := by rw [hpv]; exact ⟨rfl, rfl⟩
        exact ⟨e, fun w S μ a K Q _ => popV_ok hhas w S μ a K Q, popV_eff hhas, hp⟩
end
end Go.Proofs.YtejfdhcigkgbmaaDoor.PE
/-! Regions: in the order of the text, or in any order. -/
namespace Go.Proofs.YtejfdhcigkgbmaaDoor.PE
open Go

def PEq (u v : PV) : Prop := ∀ (w : World) (S : Nat → Prop) (μ : Mu) (x : Value), RepV w S μ u x ↔ RepV w S μ v x
theorem PEq.refl (u : PV) : PEq u u := fun _ _ _ _ => Iff.rfl
theorem PEq.trans {u v w : PV} (h : PEq u v) (h' : PEq v w) : PEq u w := fun a b c d => (h a b c d).trans (h' a b c d)
theorem PEq.symm {u v : PV} (h : PEq u v) : PEq v u := fun a b c d => (h a b c d).symm
structure LEq (t t' : List PV) : Prop where
  len : t.length = t'.length
  at_ : ∀ k, PEq (t.getD k .any) (t'.getD k .any)
theorem LEq.refl (t : List PV) : LEq t t := ⟨rfl, fun _ => .refl _⟩
theorem LEq.trans {t t' t2 : List PV} (h : LEq t t') (h' : LEq t' t2) : LEq t t2 := ⟨h.len.trans h'.len, fun k => (h.at_ k).trans (h'.at_ k)⟩
theorem LEq.symm {t t' : List PV} (h : LEq t t') : LEq t' t := ⟨h.len.symm, fun k => (h.at_ k).symm⟩

theorem putT_length (t : List PV) (d : Option Nat) (v : PV) : (putT t d v).length = t.length := by cases d <;> simp [putT]
theorem putT_ne {t : List PV} {d : Option Nat} {v : PV} {k : Nat} (h : d ≠ some k) : (putT t d v).getD k .any = t.getD k .any := by
  cases d with
  | none => rfl
  | some d =>
    have hne : d ≠ k := fun e => h (by rw [e])
    simp [putT, List.getD_eq_getElem?_getD, List.getElem?_set_ne hne]
theorem putT_eq {t : List PV} {v : PV} {k : Nat} (h : k < t.length) : (putT t (some k) v).getD k .any = v := by
  simp [putT, List.getD_eq_getElem?_getD, h]
theorem putT_ge {t : List PV} {v : PV} {k : Nat} (h : t.length ≤ k) : (putT t (some k) v).getD k .any = .any := by
  simp [putT, List.getD_eq_getElem?_getD, h]
theorem LEq.put {t t' : List PV} (h : LEq t t') (d : Option Nat) (v : PV) : LEq (putT t d v) (putT t' d v) := by
  refine ⟨by rw [putT_length, putT_length, h.len], fun k => ?_⟩
  by_cases hd : d = some k
  · subst hd
    by_cases hk : k < t.length
    · rw [putT_eq hk, putT_eq (by rw [← h.len]; exact hk)]; exact .refl _
    · rw [putT_ge (by omega), putT_ge (by rw [← h.len]; omega)]; exact .refl _
  · rw [putT_ne hd, putT_ne hd]; exact h.at_ k

structure RecP where
  o : Oper
  id : Nat
  e : Eff
  t : List PV
  hm : Nat → Option Blk
  u : Nat → Prop
  go : Bool
def RecP.T (r : RecP) (b : Nat) : Prop := (∃ k, (b, k) ∈ r.e.2.1) ∨ (r.id ≤ b ∧ b < r.id + r.e.2.2.length)
def boolOf : Value → Option Bool
  | .bool b => some b
  | _ => none
/-- It is known whether the operation is wanted. -/
def Wn (ops : Array Oper) (t : List PV) (o : Oper) (b : Bool) : Prop :=
  match o.guard with
  | none => b = true
  | some (j, w) => ∃ g, (ops[j]?).bind (·.dst) = some g ∧ ∀ (w0 : World) (S : Nat → Prop) (μ : Mu) (x : Value), RepV w0 S μ (t.getD g .any) x → (boolOf x == some w) = b
def Free (ops : Array Oper) (r' r : RecP) : Prop :=
  Oper.apart ops r'.o r.o = true ∧ ∀ b, (r'.T b → ¬ r.u b) ∧ (r.T b → ¬ r'.u b) ∧ (r.T b → ¬ r'.T b)
structure StepOK (P : Program) (G : World → (Nat → Prop) → Prop) (ops : Array Oper) (i : Nat) (s : St) (r : RecP) (s' : St) : Prop where
  op : ops[i]? = some r.o
  teq : LEq r.t s.t
  id : r.id = s.h.length
  hle : ∀ b k, r.hm b = some k → hget s.h b = some k ∧ r.u b
  act : (Wn ops r.t r.o true ∧ OpOKG P G r.t r.id r.hm r.o r.e ∧ EffOK r.hm r.e) ∨ (Wn ops r.t r.o false ∧ r.e = (.und, [], []))
  t' : s'.t = putT r.t r.o.dst r.e.1
  hlen : s'.h.length = s.h.length + r.e.2.2.length
  hget : ∀ b, PE.hget s'.h b = effH (PE.hget s.h) r.id r.e b
def At : List RecP → Nat → RecP → Prop
  | [], _, _ => False
  | r :: rs, i, r' => (i = rs.length ∧ r' = r) ∨ At rs i r'
theorem At.lt {rs : List RecP} {i : Nat} {r : RecP} (h : At rs i r) : i < rs.length := by
  induction rs with
  | nil => cases h
  | cons x rs ih =>
    rcases h with ⟨rfl, _⟩ | h
    · simp
    · have := ih h; simp; omega
theorem At.eq {rs : List RecP} {i : Nat} {r r' : RecP} (h : At rs i r) (h' : At rs i r') : r = r' := by
  induction rs with
  | nil => cases h
  | cons x rs ih =>
    rcases h with ⟨h1, h2⟩ | h
    · rcases h' with ⟨_, h4⟩ | h'
      · rw [h2, h4]
      · have := h'.lt; omega
    · rcases h' with ⟨h3, _⟩ | h'
      · have := h.lt; omega
      · exact ih h h'
theorem At.ex {rs : List RecP} {i : Nat} (h : i < rs.length) : ∃ r, At rs i r := by
  induction rs with
  | nil => cases h
  | cons x rs ih =>
    by_cases hi : i = rs.length
    · exact ⟨x, .inl ⟨hi, rfl⟩⟩
    · obtain ⟨r, hr⟩ := ih (by simp at h; omega)
      exact ⟨r, .inr hr⟩
inductive RunOK (P : Program) (G : World → (Nat → Prop) → Prop) (ops : Array Oper) (ord : Nat → Nat → Prop) (s0 : St) : List RecP → St → Prop
  | nil : RunOK P G ops ord s0 [] s0
  | cons (rs : List RecP) (s : St) (r : RecP) (s' : St) (h : RunOK P G ops ord s0 rs s) (hs : StepOK P G ops rs.length s r s')
      (hf : ∀ j r', At rs j r' → ord j rs.length ∨ Free ops r' r) : RunOK P G ops ord s0 (r :: rs) s'

def tX (t0 : List PV) (X : Nat → Bool) : List RecP → List PV
  | [] => t0
  | r :: rs => match X rs.length with
    | true => putT (tX t0 X rs) r.o.dst r.e.1
    | false => tX t0 X rs
def hX (h0 : Nat → Option Blk) (X : Nat → Bool) : List RecP → Nat → Option Blk
  | [] => h0
  | r :: rs => fun b => match X rs.length with
    | true => effH (hX h0 X rs) r.id r.e b
    | false => hX h0 X rs b
def setX (X : Nat → Bool) (i : Nat) : Nat → Bool := fun j => X j || Nat.beq j i
theorem setX_eq (X : Nat → Bool) (i : Nat) : setX X i i = true := by simp [setX]
theorem setX_ne {X : Nat → Bool} {i j : Nat} (h : j ≠ i) : setX X i j = X j := by
  have : Nat.beq j i = false := by cases hb : Nat.beq j i with | false => rfl | true => exact absurd (Nat.eq_of_beq_eq_true hb) h
  simp [setX, this]

theorem effH_at {hf hf' : Nat → Option Blk} {id : Nat} {e : Eff} {b : Nat} (h : hf b = hf' b) : effH hf id e b = effH hf' id e b := by
  simp only [effH, h]
theorem wlook_none {ws : Ws} {b : Nat} (h : ∀ k, (b, k) ∉ ws) : wlook ws b = none := by
  cases hw : wlook ws b with
  | none => rfl
  | some k => exact absurd (wlook_mem hw) (h k)
theorem effH_free {hf : Nat → Option Blk} {r : RecP} {b : Nat} (h : ¬ r.T b) : effH hf r.id r.e b = hf b := by
  have h1 : wlook r.e.2.1 b = none := wlook_none fun k hk => h (.inl ⟨k, hk⟩)
  have h2 : ¬ (r.id ≤ b ∧ b < r.id + r.e.2.2.length) := fun hh => h (.inr hh)
  simp only [effH, h1, h2, if_false]
theorem effH_touch {hf hf' : Nat → Option Blk} {r : RecP} {b : Nat} (h : r.T b) : effH hf r.id r.e b = effH hf' r.id r.e b := by
  simp only [effH]
  rcases h with ⟨k, hk⟩ | hr
  · obtain ⟨k', hk'⟩ := wlook_some hk
    simp [hk']
  · split
    · rfl
    · simp [hr]

section
variable {t0 : List PV} {h0 : Nat → Option Blk} {X Y : Nat → Bool} {rs : List RecP}
theorem tX_length : (tX t0 X rs).length = t0.length := by
  induction rs with
  | nil => rfl
  | cons r rs ih =>
    simp only [tX]
    split
    · rw [putT_length, ih]
    · exact ih
theorem tX_ext (h : ∀ j, j < rs.length → X j = Y j) : tX t0 X rs = tX t0 Y rs := by
  induction rs with
  | nil => rfl
  | cons r rs ih =>
    simp only [tX]
    rw [h rs.length (by simp), ih fun j hj => h j (by simp; omega)]
theorem hX_ext (h : ∀ j, j < rs.length → X j = Y j) (b : Nat) : hX h0 X rs b = hX h0 Y rs b := by
  induction rs with
  | nil => rfl
  | cons r rs ih =>
    have ih' := ih fun j hj => h j (by simp; omega)
    simp only [hX]
    rw [h rs.length (by simp)]
    split
    · exact effH_at ih'
    · exact ih'
theorem tX_at {k : Nat} (h : ∀ j r', At rs j r' → r'.o.dst = some k → X j = Y j) : (tX t0 X rs).getD k .any = (tX t0 Y rs).getD k .any := by
  induction rs with
  | nil => rfl
  | cons r rs ih =>
    have ih' := ih fun j r' hj => h j r' (.inr hj)
    simp only [tX]
    by_cases hd : r.o.dst = some k
    · rw [h rs.length r (.inl ⟨rfl, rfl⟩) hd, hd]
      split
      · by_cases hk : k < t0.length
        · rw [putT_eq (by rw [tX_length]; exact hk), putT_eq (by rw [tX_length]; exact hk)]
        · rw [putT_ge (by rw [tX_length]; omega), putT_ge (by rw [tX_length]; omega)]
      · exact ih'
    · split <;> split <;> simp only [putT_ne hd, ih']
theorem hX_at {b : Nat} (h : ∀ j r', At rs j r' → r'.T b → X j = Y j) : hX h0 X rs b = hX h0 Y rs b := by
  induction rs with
  | nil => rfl
  | cons r rs ih =>
    have ih' := ih fun j r' hj => h j r' (.inr hj)
    simp only [hX]
    by_cases hd : r.T b
    · rw [h rs.length r (.inl ⟨rfl, rfl⟩) hd]
      split
      · exact effH_at ih'
      · exact ih'
    · split <;> split <;> simp only [effH_free hd, ih']
theorem hX_none {b : Nat} (h : ∀ j r', At rs j r' → X j = true → ¬ r'.T b) : hX h0 X rs b = h0 b := by
  induction rs with
  | nil => rfl
  | cons r rs ih =>
    have ih' := ih fun j r' hj => h j r' (.inr hj)
    simp only [hX]
    split
    · rename_i hx
      rw [effH_free (h rs.length r (.inl ⟨rfl, rfl⟩) hx)]; exact ih'
    · exact ih'
theorem tX_add {i : Nat} {r : RecP} (hr : At rs i r) (hi : X i = false) (h : ∀ j r', At rs j r' → i < j → X j = true → ∀ d, r.o.dst = some d → r'.o.dst ≠ some d) :
    tX t0 (setX X i) rs = putT (tX t0 X rs) r.o.dst r.e.1 := by
  induction rs with
  | nil => cases hr
  | cons x rs ih =>
    simp only [tX]
    rcases hr with ⟨h1, h2⟩ | hr
    · subst h1; subst h2
      rw [setX_eq, hi]
      simp only
      rw [tX_ext (X := setX X rs.length) (Y := X) fun j hj => setX_ne (by omega)]
    · have hlt := hr.lt
      rw [setX_ne (by omega), ih hr fun j r' hj => h j r' (.inr hj)]
      split
      · rename_i hx
        have := h rs.length x (.inl ⟨rfl, rfl⟩) hlt hx
        cases hd : r.o.dst with
        | none => rfl
        | some d =>
          cases hd' : x.o.dst with
          | none => rfl
          | some d' =>
            have hne : d ≠ d' := fun e => this d hd (by rw [hd', e])
            simp only [putT]
            exact List.set_comm _ _ hne
      · rfl
theorem hX_add {i : Nat} {r : RecP} (hr : At rs i r) (hi : X i = false) (b : Nat) (h : ∀ j r', At rs j r' → i < j → X j = true → r'.T b → ¬ r.T b) :
    hX h0 (setX X i) rs b = effH (hX h0 X rs) r.id r.e b := by
  induction rs with
  | nil => cases hr
  | cons x rs ih =>
    rcases hr with ⟨h1, h2⟩ | hr
    · subst h1; subst h2
      simp only [hX]
      rw [setX_eq]
      simp only
      refine effH_at ?_
      rw [hX_ext (X := setX X rs.length) (Y := X) fun j hj => setX_ne (by omega)]
      simp only [hi]
    · have hlt := hr.lt
      have ih' := ih hr fun j r' hj => h j r' (.inr hj)
      by_cases hx : X rs.length = true
      · have h1 := h rs.length x (.inl ⟨rfl, rfl⟩) hlt hx
        by_cases hT : x.T b
        · rw [effH_free (h1 hT)]
          simp only [hX]
          rw [setX_ne (by omega), hx]
          exact effH_touch hT
        · simp only [hX]
          rw [setX_ne (by omega), hx]
          simp only
          rw [effH_free hT, ih']
          refine effH_at ?_
          simp [effH_free hT]
      · have hx' : X rs.length = false := by simpa using hx
        simp only [hX]
        rw [setX_ne (by omega), hx']
        simp only
        rw [ih']
end

section
variable {P : Program} {G : World → (Nat → Prop) → Prop} {ops : Array Oper} {ord : Nat → Nat → Prop} {s0 sN : St} {rs : List RecP}
theorem RunOK.all (h : RunOK P G ops ord s0 rs sN) : LEq (tX s0.t (fun _ => true) rs) sN.t ∧ ∀ b, hX (hget s0.h) (fun _ => true) rs b = hget sN.h b := by
  induction h with
  | nil => exact ⟨.refl _, fun _ => rfl⟩
  | cons rs s r s' h hs hf ih =>
    refine ⟨?_, fun b => ?_⟩
    · simp only [tX]
      rw [hs.t']
      exact (ih.1.trans hs.teq.symm).put _ _
    · simp only [hX]
      rw [hs.hget]
      exact effH_at (ih.2 b)
theorem RunOK.len (h : RunOK P G ops ord s0 rs sN) : s0.h.length ≤ sN.h.length := by
  induction h with
  | nil => exact Nat.le_refl _
  | cons rs s r s' h hs hf ih => rw [hs.hlen]; omega
theorem RunOK.step (h : RunOK P G ops ord s0 rs sN) {i : Nat} {r : RecP} (hr : At rs i r) : ∃ rs' s s', RunOK P G ops ord s0 rs' s ∧ StepOK P G ops i s r s' ∧ rs'.length = i ∧
    (∀ j r', At rs j r' → j < i → At rs' j r') ∧ r.id + r.e.2.2.length ≤ sN.h.length := by
  induction h with
  | nil => cases hr
  | cons rs s x s' h hs hf ih =>
    rcases hr with ⟨h1, h2⟩ | hr
    · subst h1; subst h2
      refine ⟨rs, s, s', h, hs, rfl, fun j r' hj hlt => ?_, by rw [hs.hlen, hs.id]; exact Nat.le_refl _⟩
      rcases hj with ⟨h3, _⟩ | hj
      · omega
      · exact hj
    · obtain ⟨rs', s1, s1', h1, h2, h3, h4, h5⟩ := ih hr
      refine ⟨rs', s1, s1', h1, h2, h3, fun j r' hj hlt => ?_, by rw [hs.hlen]; omega⟩
      rcases hj with ⟨h6, _⟩ | hj
      · have := hr.lt; omega
      · exact h4 j r' hj hlt
theorem RunOK.pair (h : RunOK P G ops ord s0 rs sN) {i j : Nat} {r r' : RecP} (hj : At rs j r') (hi : At rs i r) (hlt : j < i) : (ord j i ∨ Free ops r' r) ∧ r'.id + r'.e.2.2.length ≤ r.id := by
  induction h with
  | nil => cases hi
  | cons rs s x s' h hs hf ih =>
    rcases hi with ⟨h1, h2⟩ | hi
    · subst h1; subst h2
      rcases hj with ⟨h3, _⟩ | hj
      · omega
      · obtain ⟨_, _, _, _, _, _, _, h5⟩ := h.step hj
        exact ⟨hf j r' hj, by rw [hs.id]; exact h5⟩
    · rcases hj with ⟨h3, _⟩ | hj
      · have := hi.lt; omega
      · exact ih hj hi
/-- What an operation looks at is as it is told, whatever else was run. -/
theorem RunOK.temps (h : RunOK P G ops ord s0 rs sN) {i : Nat} {r : RecP} (hr : At rs i r) {X : Nat → Bool} {k : Nat}
    (hX : ∀ j r', At rs j r' → r'.o.dst = some k → X j = decide (j < i)) : PEq ((tX s0.t X rs).getD k .any) (r.t.getD k .any) := by
  induction h with
  | nil => cases hr
  | cons rs s x s' h hs hf ih =>
    have skip : x.o.dst ≠ some k ∨ X rs.length = decide (rs.length < i) := by
      by_cases hd : x.o.dst = some k
      · exact .inr (hX _ _ (.inl ⟨rfl, rfl⟩) hd)
      · exact .inl hd
    have hlt : i ≤ rs.length := by
      rcases hr with ⟨h1, _⟩ | hr
      · omega
      · have := hr.lt; omega
    have hsame : (tX s0.t X (x :: rs)).getD k .any = (tX s0.t X rs).getD k .any := by
      simp only [tX]
      split
      · rename_i hx
        rcases skip with h1 | h1
        · exact putT_ne h1
        · rw [hx] at h1
          simp at h1
          omega
      · rfl
    rw [hsame]
    rcases hr with ⟨h1, h2⟩ | hr
    · subst h1; subst h2
      have : (tX s0.t X rs).getD k .any = (tX s0.t (fun _ => true) rs).getD k .any := tX_at fun j r' hj hd => by
        rw [hX j r' (.inr hj) hd]; simp [hj.lt]
      rw [this]
      exact (h.all.1.at_ k).trans (hs.teq.symm.at_ k)
    · exact ih hr fun j r' hj hd => hX j r' (.inr hj) hd
theorem RunOK.heap (h : RunOK P G ops ord s0 rs sN) {i : Nat} {r : RecP} (hr : At rs i r) {X : Nat → Bool} {b : Nat} {k : Blk} (hb : r.hm b = some k)
    (hX' : ∀ j r', At rs j r' → r'.T b → X j = decide (j < i)) : hX (hget s0.h) X rs b = some k := by
  induction h with
  | nil => cases hr
  | cons rs s x s' h hs hf ih =>
    have skip : ¬ x.T b ∨ X rs.length = decide (rs.length < i) := by
      by_cases hd : x.T b
      · exact .inr (hX' _ _ (.inl ⟨rfl, rfl⟩) hd)
      · exact .inl hd
    have hlt : i ≤ rs.length := by
      rcases hr with ⟨h1, _⟩ | hr
      · omega
      · have := hr.lt; omega
    have hsame : hX (hget s0.h) X (x :: rs) b = hX (hget s0.h) X rs b := by
      simp only [hX]
      split
      · rename_i hx
        rcases skip with h1 | h1
        · exact effH_free h1
        · rw [hx] at h1
          simp at h1
          omega
      · rfl
    rw [hsame]
    rcases hr with ⟨h1, h2⟩ | hr
    · subst h1; subst h2
      have : hX (hget s0.h) X rs b = hX (hget s0.h) (fun _ => true) rs b := hX_at fun j r' hj hd => by
        rw [hX' j r' (.inr hj) hd]; simp [hj.lt]
      rw [this, h.all.2 b]
      exact (hs.hle b k hb).1
    · exact ih hr fun j r' hj hd => hX' j r' (.inr hj) hd
end
end Go.Proofs.YtejfdhcigkgbmaaDoor.PE
namespace Go.Proofs.YtejfdhcigkgbmaaDoor.PE
open Go

/-- What holds since a function was entered. -/
structure Link (w0 : World) (S0 : Nat → Prop) (μ0 : Mu) (m : Nat) (w : World) (S : Nat → Prop) (μ : Mu) (hf : Nat → Option Blk) : Prop where
  os : w.os = w0.os
  tape : w.tape = w0.tape
  output : w.output = w0.output
  size : w0.heap.size ≤ w.heap.size
  old : ∀ n, n < w0.heap.size → (∀ b z, b < m → μ0 b ≠ some (n, z)) → w.heap[n]? = w0.heap[n]?
  subS : ∀ n, S0 n → S n
  newS : ∀ n, S n → S0 n ∨ w0.heap.size ≤ n
  mu : ∀ b, b < m → μ b = μ0 b
  place : ∀ b k a z, hf b = some k → μ b = some (a, z) → w0.heap.size ≤ a ∨ ∃ b0 z', b0 < m ∧ μ0 b0 = some (a, z')
structure Env where
  w0 : World
  S0 : Nat → Prop
  μ0 : Mu
  m : Nat
structure InvAt (G : World → (Nat → Prop) → Prop) (E : Env) (t : List PV) (hf : Nat → Option Blk) (free : Nat → Prop) (a : Act) (w : World) (S : Nat → Prop) (μ : Mu) : Prop where
  g : G w S
  defers : a.defers = []
  len : t.length = a.tmps.size
  rep : ∀ k, RepV w S μ (t.getD k .any) (a.tmps.getD k undef)
  hrel : HRel w S μ hf
  free : ∀ b, free b → μ b = none
  link : Link E.w0 E.S0 E.μ0 E.m w S μ hf
def Inv (G : World → (Nat → Prop) → Prop) (E : Env) (t : List PV) (hf : Nat → Option Blk) (free : Nat → Prop) (a : Act) (w : World) : Prop := ∃ S μ, InvAt G E t hf free a w S μ
def SInv (G : World → (Nat → Prop) → Prop) (E : Env) (s : St) : Act → World → Prop := Inv G E s.t (hget s.h) (fun b => s.h.length ≤ b)

section
variable {P : Program} {G : World → (Nat → Prop) → Prop} {E : Env} {w w' : World} {S S' : Nat → Prop} {μ μ' : Mu} {id : Nat} {e : Eff} {v : Value} {hf : Nat → Option Blk} {t : List PV} {free : Nat → Prop} {a : Act}
theorem Link.post (hk : Link E.w0 E.S0 E.μ0 E.m w S μ hf) (p : Post w w' S S' μ μ' id e v) (hl : ∀ b k, (b, k) ∈ e.2.1 → ∃ kb, hf b = some kb) (hm : E.m ≤ id) (hn : ∀ j, j < e.2.2.length → hf (id + j) = none) :
    Link E.w0 E.S0 E.μ0 E.m w' S' μ' (effH hf id e) := by
  refine ⟨p.os.trans hk.os, p.tape.trans hk.tape, p.output.trans hk.output, Nat.le_trans hk.size p.size, fun n hn hno => ?_, fun n hn => p.subS n (hk.subS n hn), fun n hn => ?_, fun b hb => ?_, fun b k a z hb hmu => ?_⟩
  · rw [p.old n (by have := hk.size; omega) fun b k z hbk hmu => ?_]
    · exact hk.old n hn hno
    · obtain ⟨kb, hkb⟩ := hl b k hbk
      rcases hk.place b kb n z hkb hmu with h | ⟨b0, z', h1, h2⟩
      · omega
      · exact hno b0 z' h1 h2
  · rcases p.newS n hn with h | h
    · exact hk.newS n h
    · exact .inr (Nat.le_trans hk.size h.1)
  · rw [p.mu b (.inl (by omega))]; exact hk.mu b hb
  · have live : ∀ kb, hf b = some kb → ¬ (id ≤ b ∧ b < id + e.2.2.length) → E.w0.heap.size ≤ a ∨ ∃ b0 z', b0 < E.m ∧ E.μ0 b0 = some (a, z') := by
      intro kb hkb hr
      rw [p.mu b (by omega)] at hmu
      exact hk.place b kb a z hkb hmu
    simp only [effH] at hb
    split at hb
    · rename_i k' hk'
      obtain ⟨kb, hkb⟩ := hl b _ (wlook_mem hk')
      refine live kb hkb fun hr => ?_
      have := hn (b - id) (by omega)
      rw [show id + (b - id) = b by omega, hkb] at this; cases this
    · split at hb
      · rename_i hr
        obtain ⟨a', z', h1, _, _, h2⟩ := p.nw _ _ hb
        rw [show id + (b - id) = b by omega] at h1
        have := hmu.symm.trans h1; cases this
        rcases h2 with h2 | ⟨c, z2, h3, h4⟩
        · exact .inl (Nat.le_trans hk.size h2)
        · obtain ⟨kc, hkc⟩ := hl c _ h3
          exact hk.place c kc a z2 hkc h4
      · rename_i hr
        exact live k hb hr
theorem put_getD (a : Act) (dst : Option Nat) (v : Value) (k : Nat) : (a.put dst v).tmps.getD k undef = if dst = some k ∧ k < a.tmps.size then v else a.tmps.getD k undef := by
  cases dst with
  | none => simp [Act.put]
  | some d =>
    simp only [Act.put, Array.getD_eq_getD_getElem?, Array.getElem?_setIfInBounds]
    by_cases hd : d = k
    · subst hd
      by_cases hk : d < a.tmps.size
      · simp [hk]
      · simp [hk]
    · simp [hd]
theorem put_size (a : Act) (dst : Option Nat) (v : Value) : (a.put dst v).tmps.size = a.tmps.size := by cases dst <;> simp [Act.put]
theorem put_defers (a : Act) (dst : Option Nat) (v : Value) : (a.put dst v).defers = a.defers := by cases dst <;> simp [Act.put]
theorem InvAt.post (hG : GOk G) (hi : InvAt G E t hf free a w S μ) (p : Post w w' S S' μ μ' id e v) (hl : ∀ b k, (b, k) ∈ e.2.1 → ∃ kb, hf b = some kb)
    (hnd : ∀ b k k', (b, k) ∈ e.2.1 → (b, k') ∈ e.2.1 → k = k') (hm : E.m ≤ id) (hfr : ∀ j, j < e.2.2.length → free (id + j)) (hn : ∀ j, j < e.2.2.length → hf (id + j) = none) (dst : Option Nat) :
    InvAt G E (putT t dst e.1) (effH hf id e) (fun b => free b ∧ ¬ (id ≤ b ∧ b < id + e.2.2.length)) (a.put dst v) w' S' μ' := by
  have hmono := p.mono hi.hrel hl
  have hle := p.muLe fun j hj => hi.free _ (hfr j hj)
  refine ⟨hG _ _ _ _ hmono hi.g, by rw [put_defers, hi.defers], by rw [putT_length, put_size, hi.len], fun k => ?_,
    p.hrel hi.hrel hl hnd (fun j hj => hi.free _ (hfr j hj)) hn, fun b hb => ?_, hi.link.post p hl hm hn⟩
  · rw [put_getD]
    by_cases hd : dst = some k
    · subst hd
      by_cases hk : k < t.length
      · rw [putT_eq hk, if_pos ⟨rfl, by rw [← hi.len]; exact hk⟩]; exact p.rep
      · rw [putT_ge (by omega)]; exact .any _ _
    · rw [putT_ne hd, if_neg fun h => hd h.1]
      exact (hi.rep k).mono hmono hle
  · rw [p.mu b (by omega)]; exact hi.free b hb.1
end

def XInv (G : World → (Nat → Prop) → Prop) (E : Env) (s0 : St) (rs : List RecP) (X : Nat → Bool) : Act → World → Prop :=
  Inv G E (tX s0.t X rs) (hX (hget s0.h) X rs) (fun b => s0.h.length ≤ b ∧ ∀ i r, At rs i r → X i = true → ¬ (r.id ≤ b ∧ b < r.id + r.e.2.2.length))

section
variable {P : Program} {G : World → (Nat → Prop) → Prop} {E : Env} {ops : Array Oper} {ord : Nat → Nat → Prop} {s0 sN : St} {rs : List RecP}
theorem looks_op {ops : Array Oper} {o : Oper} {k : Nat} (h : Operand.tmp k ∈ o.op.operands) : k ∈ o.looksAt ops := by
  unfold Oper.looksAt
  refine List.mem_append.2 (.inl (List.mem_filterMap.2 ⟨_, by simpa using h, rfl⟩))
theorem looks_guard {ops : Array Oper} {o : Oper} {j g : Nat} {w : Bool} (h : o.guard = some (j, w)) (hg : (ops[j]?).bind (·.dst) = some g) : g ∈ o.looksAt ops := by
  unfold Oper.looksAt
  refine List.mem_append.2 (.inr ?_)
  simp [h, hg]
/-- One operation of a region, in whatever order. -/
theorem step_any (hG : GOk G) (h : RunOK P G ops ord s0 rs sN) {i : Nat} {r : RecP} (hr : At rs i r) {X : Nat → Bool} (hi : X i = false) (hm : E.m ≤ s0.h.length)
    (hc : ∀ j, j < i → ord j i → X j = true) (hc2 : ∀ j, i < j → ord i j → X j = false) {a : Act} {w : World} {Q : Exit → Act → World → Prop} (inv : XInv G E s0 rs X a w) :
    wpOp P ops Q i (XInv G E s0 rs (setX X i)) a w := by
  obtain ⟨rs', s, s', hrun', hs, hlen', hat', hend⟩ := h.step hr
  obtain ⟨S, μ, iv⟩ := inv
  have hid : s0.h.length ≤ r.id := by rw [hs.id]; exact hrun'.len
  -- who else may touch what this one looks at
  have agreeT : ∀ k, k ∈ r.o.looksAt ops → ∀ j r', At rs j r' → r'.o.dst = some k → X j = decide (j < i) := by
    intro k hk j r' hj hd
    rcases Nat.lt_trichotomy j i with hlt | heq | hgt
    · rcases (h.pair hj hr hlt).1 with ho | hf
      · rw [hc j hlt ho]; simp [hlt]
      · exact absurd hk ((Oper.apart_spec hf.1).1 k hd)
    · subst heq; rw [hi]; simp
    · rcases (h.pair hr hj hgt).1 with ho | hf
      · rw [hc2 j hgt ho]; simp; omega
      · exact absurd hk ((Oper.apart_spec hf.1).2.2 k hd)
  have agreeH : ∀ b k, r.hm b = some k → hX (hget s0.h) X rs b = some k := by
    intro b k hb
    refine h.heap hr hb fun j r' hj hT => ?_
    have hu := (hs.hle b k hb).2
    rcases Nat.lt_trichotomy j i with hlt | heq | hgt
    · rcases (h.pair hj hr hlt).1 with ho | hf
      · rw [hc j hlt ho]; simp [hlt]
      · exact absurd hu ((hf.2 b).1 hT)
    · subst heq; rw [hi]; simp
    · rcases (h.pair hr hj hgt).1 with ho | hf
      · rw [hc2 j hgt ho]; simp; omega
      · exact absurd hu ((hf.2 b).2.1 hT)
  have later : ∀ j r', At rs j r' → i < j → X j = true → Free ops r r' := by
    intro j r' hj hgt hX
    rcases (h.pair hr hj hgt).1 with ho | hf
    · rw [hc2 j hgt ho] at hX; cases hX
    · exact hf
  have hrep : ∀ k, k ∈ r.o.looksAt ops → RepV w S μ (r.t.getD k .any) (a.tmps.getD k undef) := fun k hk => (h.temps hr (agreeT k hk) w S μ _).1 (iv.rep k)
  have hadd : tX s0.t (setX X i) rs = putT (tX s0.t X rs) r.o.dst r.e.1 := tX_add hr hi fun j r' hj hgt hX d hd =>
    (Oper.apart_spec (later j r' hj hgt hX).1).2.1 d hd
  have hWlt : ∀ b k, (b, k) ∈ r.e.2.1 → (∃ kb, r.hm b = some kb) ∧ b < r.id := by
    intro b k hb
    rcases hs.act with ⟨_, _, hE⟩ | ⟨_, he⟩
    · obtain ⟨kb, hkb⟩ := hE.hl b k hb
      exact ⟨⟨kb, hkb⟩, by rw [hs.id]; exact hget_lt (hs.hle b kb hkb).1⟩
    · rw [he] at hb; cases hb
  have hnd : ∀ b k k', (b, k) ∈ r.e.2.1 → (b, k') ∈ r.e.2.1 → k = k' := by
    rcases hs.act with ⟨_, _, hE⟩ | ⟨_, he⟩
    · exact hE.hnd
    · intro b k k' hb; rw [he] at hb; cases hb
  have hadd2 : hX (hget s0.h) (setX X i) rs = effH (hX (hget s0.h) X rs) r.id r.e := funext fun b => hX_add hr hi b fun j r' hj hgt hX hT hT' =>
    ((later j r' hj hgt hX).2 b).2.2 hT hT'
  have notouch : ∀ j, j < r.e.2.2.length → ∀ j' r', At rs j' r' → X j' = true → ¬ r'.T (r.id + j) := by
    intro j hj j' r' hj' hX hT
    rcases Nat.lt_trichotomy j' i with hlt | heq | hgt
    · have hp := (h.pair hj' hr hlt).2
      obtain ⟨_, s1, s1', hrun1, hs1, _⟩ := h.step hj'
      rcases hT with ⟨k, hk⟩ | ⟨h1, h2⟩
      · rcases hs1.act with ⟨_, _, hE⟩ | ⟨_, he⟩
        · obtain ⟨kb, hkb⟩ := hE.hl _ k hk
          have := hget_lt (hs1.hle _ kb hkb).1
          rw [← hs1.id] at this; omega
        · rw [he] at hk; cases hk
      · omega
    · subst heq; rw [hi] at hX; cases hX
    · exact ((later j' r' hj' hgt hX).2 _).2.2 hT (.inr ⟨by omega, by omega⟩)
  have hfr : ∀ j, j < r.e.2.2.length → s0.h.length ≤ r.id + j ∧ ∀ i' r', At rs i' r' → X i' = true → ¬ (r'.id ≤ r.id + j ∧ r.id + j < r'.id + r'.e.2.2.length) :=
    fun j hj => ⟨by omega, fun i' r' hi' hX hr' => notouch j hj i' r' hi' hX (.inr hr')⟩
  have hnone : ∀ j, j < r.e.2.2.length → hX (hget s0.h) X rs (r.id + j) = none := by
    intro j hj
    rw [hX_none (notouch j hj)]
    unfold hget
    rw [List.getElem?_eq_none (by omega)]
  have fin : ∀ v w' S' μ', Post w w' S S' μ μ' r.id r.e v → XInv G E s0 rs (setX X i) (a.put r.o.dst v) w' := by
    intro v w' S' μ' p
    have hnew := iv.post hG p (fun b k hb => by
      obtain ⟨⟨kb, hkb⟩, _⟩ := hWlt b k hb
      exact ⟨kb, agreeH b kb hkb⟩) hnd (Nat.le_trans hm hid) hfr hnone r.o.dst
    refine ⟨S', μ', ?_⟩
    rw [hadd, hadd2]
    refine ⟨hnew.g, hnew.defers, hnew.len, hnew.rep, hnew.hrel, fun b hb => hnew.free b ⟨⟨hb.1, fun i' r' hi' hX => hb.2 i' r' hi' ?_⟩, hb.2 i r hr (setX_eq X i)⟩, hnew.link⟩
    by_cases he : i' = i
    · subst he; exact setX_eq X i'
    · rw [setX_ne he]; exact hX
  have hwant : ∀ b, Wn ops r.t r.o b → Region.wanted r.o (yielded ops a.tmps) = b := by
    intro b hb
    unfold Wn at hb
    unfold Region.wanted
    split at hb
    · rename_i hg; rw [hg]; exact hb.symm
    · rename_i j w1 hg
      rw [hg]
      obtain ⟨g, h1, h2⟩ := hb
      have h3 := h2 w S μ _ (hrep g (looks_guard hg h1))
      simp only
      rw [← h3]
      unfold yielded
      rw [h1]
      simp only [Option.bind_some, Array.getD_eq_getD_getElem?]
      cases hx : a.tmps[g]? with
      | none => simp [boolOf, undef]
      | some x => cases x <;> rfl
  unfold wpOp
  rw [hs.op]
  simp only
  rcases hs.act with ⟨hw, hop, hE⟩ | ⟨hw, he⟩
  · rw [hwant true hw]
    simp only [if_true]
    refine .inl (hop w S μ a _ Q iv.g (fun x hx => ?_) ⟨fun b k hb => iv.hrel.blk b k (agreeH b k hb), fun b k a z hb => iv.hrel.sep b k a z (agreeH b k hb),
      fun b b' k k' a z z' hb hb' => iv.hrel.inj b b' k k' a z z' (agreeH b k hb) (agreeH b' k' hb'), iv.hrel.lt⟩ (fun j hj => iv.free _ (hfr j hj)) fin)
    cases x with
    | tmp k => exact hrep k (looks_op hx)
    | const v => exact repV_ofVal v
    | global g => exact .any _ _
    | func f => exact .cell _ _ _ rfl (.clo _ f [] [] (.nil _))
  · rw [hwant false hw]
    simp only [Bool.false_eq_true, if_false]
    exact fin undef w S μ (by rw [he]; exact Post.same (.und _))
theorem XInv.none {a : Act} {w : World} (h : SInv G E s0 a w) : XInv G E s0 rs (fun _ => false) a w := by
  obtain ⟨S, μ, iv⟩ := h
  have h1 : ∀ rs, tX s0.t (fun _ => false) rs = s0.t := by
    intro rs; induction rs with
    | nil => rfl
    | cons r rs ih => simp only [tX]; exact ih
  have h2 : ∀ rs, hX (hget s0.h) (fun _ => false) rs = hget s0.h := by
    intro rs; induction rs with
    | nil => rfl
    | cons r rs ih => funext b; simp only [hX]; rw [ih]
  refine ⟨S, μ, ?_⟩
  rw [h1, h2]
  exact ⟨iv.g, iv.defers, iv.len, iv.rep, iv.hrel, fun b hb => iv.free b hb.1, iv.link⟩
theorem XInv.all (h : RunOK P G ops ord s0 rs sN) {X : Nat → Bool} (hX' : ∀ j, j < rs.length → X j = true) {a : Act} {w : World} (hx : XInv G E s0 rs X a w) : SInv G E sN a w := by
  obtain ⟨S, μ, iv⟩ := hx
  have h1 : LEq (tX s0.t X rs) sN.t := by rw [tX_ext (Y := fun _ => true) hX']; exact h.all.1
  have h2 : hX (hget s0.h) X rs = hget sN.h := funext fun b => by rw [hX_ext (Y := fun _ => true) hX']; exact h.all.2 b
  rw [h2] at iv
  refine ⟨S, μ, iv.g, iv.defers, by rw [← h1.len]; exact iv.len, fun k => (h1.at_ k w S μ _).1 (iv.rep k), iv.hrel, fun b hb => iv.free b ⟨Nat.le_trans h.len hb, fun i r hr _ hh => ?_⟩, iv.link⟩
  obtain ⟨_, _, _, _, _, _, _, h5⟩ := h.step hr
  have hb' : sN.h.length ≤ b := hb
  omega
/-- A region in the order of the text. -/
theorem run_seq (hG : GOk G) (h : RunOK P G ops (fun _ _ => True) s0 rs sN) (hn : rs.length = ops.size) (hm : E.m ≤ s0.h.length) {Q : Exit → Act → World → Prop}
    (hQ : ∀ a w, SInv G E sN a w → Q .normal a w) {a : Act} {w : World} (hi : SInv G E s0 a w) : wpOps P ops Q (List.range ops.size) a w := by
  have key : ∀ (k i : Nat), i + k = ops.size → ∀ a w, XInv G E s0 rs (fun j => decide (j < i)) a w → wpOps P ops Q (List.range' i k) a w := by
    intro k
    induction k with
    | zero =>
      intro i hik a w hx
      exact hQ a w (XInv.all h (fun j hj => by simp; omega) hx)
    | succ k ih =>
      intro i hik a w hx
      rw [List.range'_succ, wpOps_cons]
      obtain ⟨r, hr⟩ := At.ex (rs := rs) (i := i) (by omega)
      refine wpOp_mono (fun a w hx => ih (i + 1) (by omega) a w ?_) (step_any hG h hr (by simp) hm (fun j hj _ => by simp [hj]) (fun j hj _ => by simp; omega) hx)
      have : setX (fun j => decide (j < i)) i = fun j => decide (j < i + 1) := by
        funext j
        by_cases hj : j = i
        · subst hj; rw [setX_eq]; simp
        · rw [setX_ne hj]
          have : (j < i) = (j < i + 1) := propext ⟨fun h => by omega, fun h => by omega⟩
          simp only [this]
      rwa [this] at hx
  rw [List.range_eq_range']
  refine key ops.size 0 (by omega) a w ?_
  have : (fun j => decide (j < 0)) = fun _ => false := by funext j; simp
  rw [this]
  exact XInv.none hi
end
end Go.Proofs.YtejfdhcigkgbmaaDoor.PE
namespace Go.Proofs.YtejfdhcigkgbmaaDoor.PE
open Go

theorem testBit_one_shl (n j : Nat) : Nat.testBit (1 <<< n) j = decide (j = n) := by
  rw [Nat.shiftLeft_eq, Nat.one_mul, Nat.testBit_two_pow]
  by_cases h : n = j
  · subst h; simp
  · simp [h, Ne.symm h]
theorem rowOf_spec {tab : List Nat} : ∀ (es : List Edge) (m m' : Nat), rowOf tab es m = some m' →
    (∀ e ∈ es, Region.binds .any e = true → e.on < tab.length) ∧
    (∀ j, Nat.testBit m' j = true → Nat.testBit m j = true ∨ ∃ e ∈ es, Region.binds .any e = true ∧ (j = e.on ∨ Nat.testBit (tab.getD e.on 0) j = true))
  | [], m, m', h => by simp [rowOf] at h; subst h; exact ⟨fun e he => (by cases he), fun j hj => .inl hj⟩
  | e :: es, m, m', h => by
    simp only [rowOf] at h
    split at h
    · rename_i hb
      split at h
      case h_2 => cases h
      rename_i x hx
      obtain ⟨h1, h2⟩ := rowOf_spec es _ _ h
      refine ⟨fun e' he hb' => ?_, fun j hj => ?_⟩
      · rcases List.mem_cons.1 he with rfl | he
        · exact (List.getElem?_eq_some_iff.1 hx).1
        · exact h1 e' he hb'
      · rcases h2 j hj with h3 | ⟨e', h4, h5, h6⟩
        · rw [Nat.testBit_or, Nat.testBit_or, testBit_one_shl] at h3
          simp only [Bool.or_eq_true, decide_eq_true_eq] at h3
          rcases h3 with (h3 | h3) | h3
          · exact .inl h3
          · exact .inr ⟨e, by simp, hb, .inr (by simp [List.getD_eq_getElem?_getD, hx, h3])⟩
          · exact .inr ⟨e, by simp, hb, .inl h3⟩
        · exact .inr ⟨e', by simp [h4], h5, h6⟩
    · rename_i hb
      obtain ⟨h1, h2⟩ := rowOf_spec es _ _ h
      refine ⟨fun e' he hb' => ?_, fun j hj => ?_⟩
      · rcases List.mem_cons.1 he with rfl | he
        · rw [hb] at hb'; cases hb'
        · exact h1 e' he hb'
      · rcases h2 j hj with h3 | ⟨e', h4, h5, h6⟩
        · exact .inl h3
        · exact .inr ⟨e', by simp [h4], h5, h6⟩
theorem apartB_spec {all : Array Oper} {o : Oper} {row : Nat} : ∀ (l : List Oper) (j : Nat), apartB all o row j l = true → ∀ i x, l[i]? = some x → Nat.testBit row (j + i) = true ∨ Oper.apart all x o = true
  | [], _, _, i, x, h => by simp at h
  | y :: l, j, h, i, x, hx => by
    simp only [apartB, Bool.and_eq_true, Bool.or_eq_true] at h
    cases i with
    | zero => simp at hx; subst hx; exact h.1
    | succ i =>
      have := apartB_spec l (j + 1) h.2 i x (by simpa using hx)
      rwa [show j + 1 + i = j + (i + 1) by omega] at this
/-- The table says for each operation which stand before it. -/
structure RowsOK (all : Array Oper) (rows : List Nat) : Prop where
  edge : ∀ (i : Nat) (o : Oper), all[i]? = some o → ∀ e ∈ o.after, Region.binds .any e = true → e.on < i
  up : ∀ (i : Nat) (o : Oper) (j : Nat), all[i]? = some o → Nat.testBit (rows.getD i 0) j = true → ∃ e ∈ o.after, Region.binds .any e = true ∧ (j = e.on ∨ Nat.testBit (rows.getD e.on 0) j = true)
  apart : ∀ (i j : Nat) (o x : Oper), all[i]? = some o → all[j]? = some x → j < i → Nat.testBit (rows.getD i 0) j = true ∨ Oper.apart all x o = true
theorem rowsOf_spec {all : Array Oper} : ∀ (l before : List Oper) (tab rows : List Nat), rowsOf all l before tab = some rows → before.length = tab.length →
    (∀ i, i < tab.length → rows.getD i 0 = tab.getD i 0) ∧
    ∀ (k : Nat) (o : Oper), l[k]? = some o → (∀ e ∈ o.after, Region.binds .any e = true → e.on < tab.length + k) ∧
      (∀ j, Nat.testBit (rows.getD (tab.length + k) 0) j = true → ∃ e ∈ o.after, Region.binds .any e = true ∧ (j = e.on ∨ Nat.testBit (rows.getD e.on 0) j = true)) ∧
      (∀ j x, (before ++ l)[j]? = some x → j < tab.length + k → Nat.testBit (rows.getD (tab.length + k) 0) j = true ∨ Oper.apart all x o = true)
  | [], before, tab, rows, h, hl => by simp [rowsOf] at h; subst h; exact ⟨fun _ _ => rfl, fun k o h => by simp at h⟩
  | o :: l, before, tab, rows, h, hl => by
    simp only [rowsOf] at h
    split at h
    case h_2 => cases h
    rename_i m hm
    split at h
    case h_2 => cases h
    rename_i hap
    obtain ⟨h1, h2⟩ := rowsOf_spec l (before ++ [o]) (tab ++ [m]) rows h (by simp [hl])
    have hold : ∀ i, i < tab.length → rows.getD i 0 = tab.getD i 0 := fun i hi => by
      rw [h1 i (by simp; omega)]
      simp [List.getD_eq_getElem?_getD, List.getElem?_append_left hi]
    have hnew : rows.getD tab.length 0 = m := by
      rw [h1 tab.length (by simp)]
      simp [List.getD_eq_getElem?_getD]
    refine ⟨hold, fun k o' hk => ?_⟩
    cases k with
    | zero =>
      simp at hk; subst hk
      obtain ⟨h3, h4⟩ := rowOf_spec _ _ _ hm
      refine ⟨fun e he hb => h3 e (by simpa using he) hb, fun j hj => ?_, fun j x hx hlt => ?_⟩
      · rw [Nat.add_zero, hnew] at hj
        rcases h4 j hj with h5 | ⟨e, h5, h6, h7⟩
        · simp at h5
        · exact ⟨e, by simpa using h5, h6, by rw [hold e.on (h3 e h5 h6)]; exact h7⟩
      · rw [Nat.add_zero] at hlt ⊢
        rw [hnew]
        rw [List.getElem?_append_left (by omega)] at hx
        have := apartB_spec _ _ hap j x hx
        rwa [Nat.zero_add] at this
    | succ k =>
      simp at hk
      obtain ⟨h3, h4, h5⟩ := h2 k o' hk
      rw [List.length_append, List.length_singleton, show tab.length + 1 + k = tab.length + (k + 1) by omega] at h3 h4 h5
      refine ⟨h3, h4, fun j x hx hlt => h5 j x (by simpa using hx) hlt⟩
theorem rowsOK {all : Array Oper} {rows : List Nat} (h : rowsOf all all.toList [] [] = some rows) : RowsOK all rows := by
  obtain ⟨_, h2⟩ := rowsOf_spec _ _ _ _ h rfl
  simp only [List.length_nil, Nat.zero_add, List.nil_append] at h2
  refine ⟨fun i o ho => (h2 i o (by simpa using ho)).1, fun i o j ho => (h2 i o (by simpa using ho)).2.1 j, fun i j o x ho hx hlt => (h2 i o (by simpa using ho)).2.2 j x (by simpa using hx) hlt⟩

section
variable {P : Program} {G : World → (Nat → Prop) → Prop} {E : Env} {ops : Array Oper} {s0 sN : St} {rs : List RecP} {rows : List Nat}
theorem count_set {l : List Bool} : ∀ {i : Nat}, l[i]? = some false → (l.set i true).count false + 1 = l.count false := by
  induction l with
  | nil => intro i h; simp at h
  | cons b l ih =>
    intro i h
    cases i with
    | zero => simp at h; subst h; simp
    | succ i =>
      simp at h
      have := ih h
      simp only [List.set_cons_succ, List.count_cons]
      omega
/-- A region in any order. -/
theorem run_any (hG : GOk G) (hR : RowsOK ops rows) (h : RunOK P G ops (fun j i => Nat.testBit (rows.getD i 0) j = true) s0 rs sN) (hn : rs.length = ops.size) (hm : E.m ≤ s0.h.length)
    {Q : Exit → Act → World → Prop} (hQ : ∀ a w, SInv G E sN a w → Q .normal a w) {a : Act} {w : World} (hi : SInv G E s0 a w) :
    wpAny P .any ops Q ops.size (Array.replicate ops.size false) a w := by
  have allIn : ∀ (listed : Array Bool), listed.size = ops.size → Region.ready .any ops listed = [] → ∀ j, j < ops.size → listed.getD j false = true := by
    intro listed hs hr j
    induction j using Nat.strongRecOn with
    | _ j ih =>
      intro hj
      cases hb : listed.getD j false with
      | true => rfl
      | false =>
        exfalso
        have ho : ops[j]? = some ops[j] := Array.getElem?_eq_getElem hj
        have : j ∈ Region.ready .any ops listed := by
          refine mem_ready.2 ⟨?_, ops[j], ho, fun e he hbd => ?_⟩
          · have hj' : j < listed.size := by omega
            simp only [Array.getD, hj', dif_pos] at hb ⊢
            exact hb
          · have := hR.edge j _ ho e he hbd
            exact ih e.on this (by omega)
        rw [hr] at this
        cases this
  have key : ∀ (fuel : Nat) (listed : Array Bool) (a : Act) (w : World), listed.size = ops.size → listed.toList.count false ≤ fuel →
      (∀ i j, listed.getD i false = true → Nat.testBit (rows.getD i 0) j = true → listed.getD j false = true) →
      XInv G E s0 rs (fun j => listed.getD j false) a w → wpAny P .any ops Q fuel listed a w := by
    intro fuel
    induction fuel with
    | zero =>
      intro listed a w hs hc hcl hx
      have hall : ∀ j, j < ops.size → listed.getD j false = true := by
        intro j hj
        have hj' : j < listed.size := by omega
        simp only [Array.getD, hj', dif_pos]
        cases hb : listed[j] with
        | true => exact hb
        | false =>
          have : false ∈ listed.toList := by
            have := Array.getElem_mem hj'
            rw [hb] at this
            simpa using this
          have := List.count_pos_iff.2 this
          omega
      refine ⟨?_, hQ a w (XInv.all h (fun j hj => hall j (by omega)) hx)⟩
      cases hr : Region.ready .any ops listed with
      | nil => rfl
      | cons x xs =>
        have hmem : x ∈ Region.ready .any ops listed := by rw [hr]; simp
        obtain ⟨h1, o, h2, _⟩ := mem_ready.1 hmem
        have hlt := (Array.getElem?_eq_some_iff.1 h2).1
        have := hall x hlt
        have hx' : x < listed.size := by omega
        simp only [Array.getD, hx', dif_pos] at this h1
        rw [this] at h1; cases h1
    | succ fuel ih =>
      intro listed a w hs hc hcl hx
      refine ⟨fun hr => hQ a w (XInv.all h (fun j hj => allIn listed hs hr j (by omega)) hx), fun i hi => ?_⟩
      obtain ⟨h1, o, h2, h3⟩ := mem_ready.1 hi
      have hlt := (Array.getElem?_eq_some_iff.1 h2).1
      have hlt' : i < listed.size := by omega
      have hif : listed[i]? = some false := by
        simp only [Array.getD, hlt', dif_pos] at h1
        rw [Array.getElem?_eq_getElem hlt', ← h1]; rfl
      have hXi : listed.getD i false = false := by
        simp only [Array.getD_eq_getD_getElem?, hif, Option.getD_some]
      obtain ⟨r, hr⟩ := At.ex (rs := rs) (i := i) (by omega)
      have before : ∀ j, Nat.testBit (rows.getD i 0) j = true → listed.getD j false = true := by
        intro j hj
        obtain ⟨e, he, hb, hor⟩ := hR.up i o j h2 hj
        rcases hor with rfl | hor
        · exact h3 e he hb
        · exact hcl e.on j (h3 e he hb) hor
      have hset : ∀ j, (listed.setIfInBounds i true).getD j false = setX (fun j => listed.getD j false) i j := by
        intro j
        by_cases hj : j = i
        · subst hj; rw [setX_eq]; simp [Array.getD_eq_getD_getElem?, hlt']
        · rw [setX_ne hj]; simp [Array.getD_eq_getD_getElem?, Ne.symm hj]
      refine wpOp_mono (fun a w hx => ih _ a w (by simpa using hs) ?_ (fun i' j hi' hj => ?_) ?_)
        (step_any hG h hr hXi hm (fun j _ hj => before j hj) (fun j hlt hj => ?_) hx)
      · have := count_set (l := listed.toList) (i := i) (by simpa using hif)
        simp only [Array.toList_setIfInBounds]
        omega
      · rw [hset] at hi' ⊢
        by_cases hii : i' = i
        · subst hii
          have := before j hj
          simp only [setX]
          simp [this]
        · rw [setX_ne hii] at hi'
          have := hcl i' j hi' hj
          simp only [setX]
          simp [this]
      · have : (fun j => (listed.setIfInBounds i true).getD j false) = setX (fun j => listed.getD j false) i := funext hset
        rw [this]; exact hx
      · cases hb : listed.getD j false with
        | false => rfl
        | true =>
          have := hcl j i hb hj
          rw [hXi] at this; cases this
  refine key _ _ a w (by simp) (by simp) (fun i j hi _ => ?_) ?_
  · exfalso
    by_cases hi' : i < ops.size
    · simp [Array.getD, hi'] at hi
    · simp [Array.getD, hi'] at hi
  · have : (fun j => (Array.replicate ops.size false).getD j false) = fun _ => false := by
      funext j
      by_cases hj : j < ops.size <;> simp [Array.getD, hj]
    rw [this]
    exact XInv.none hi
theorem SInv.drawn (hG : GOk G) {s : St} {a : Act} {w : World} (h : SInv G E s a w) : SInv G E s a { w with drawn := w.drawn + 1 } := by
  obtain ⟨S, μ, iv⟩ := h
  have hm : Mono w { w with drawn := w.drawn + 1 } S S := ⟨fun _ h => h, fun _ _ _ => rfl⟩
  refine ⟨S, μ, hG _ _ _ _ hm iv.g, iv.defers, iv.len, fun k => (iv.rep k).mono hm (MuLe.refl _), ⟨fun b k hb => ?_, iv.hrel.sep, iv.hrel.inj, iv.hrel.lt⟩, iv.free,
    ⟨iv.link.os, iv.link.tape, iv.link.output, iv.link.size, iv.link.old, iv.link.subS, iv.link.newS, iv.link.mu, iv.link.place⟩⟩
  obtain ⟨a, z, h1, h2⟩ := iv.hrel.blk b k hb
  exact ⟨a, z, h1, h2.mono hm (MuLe.refl _) rfl⟩
end
end Go.Proofs.YtejfdhcigkgbmaaDoor.PE
namespace Go.Proofs.YtejfdhcigkgbmaaDoor.PE
open Go

theorem PEq.bl {x : Bool} (h : x = true) : PEq (.bl true) (.b x) := by
  subst h
  intro w S μ v
  constructor
  · intro h
    cases h with
    | cell _ _ _ _ h => cases h; exact .cell _ _ _ rfl (.b _ _)
    | agg _ _ _ hv => cases hv
  · intro h
    cases h with
    | cell _ _ _ _ h => cases h; exact .cell _ _ _ rfl (.bl _ _)
    | agg _ _ _ hv => cases hv
theorem PEq.bl' {x : Bool} (h : x = false) : PEq (.bl false) (.b x) := by
  subst h
  intro w S μ v
  constructor
  · intro h
    cases h with
    | cell _ _ _ _ h => cases h; exact .cell _ _ _ rfl (.b _ _)
    | agg _ _ _ hv => cases hv
  · intro h
    cases h with
    | cell _ _ _ _ h => cases h; exact .cell _ _ _ rfl (.bl _ _)
    | agg _ _ _ hv => cases hv
theorem getD_ge {t : List PV} {g : Nat} (h : ¬ g < t.length) : t.getD g .any = .any := by
  rw [List.getD_eq_getElem?_getD, List.getElem?_eq_none (by omega)]; rfl
theorem LEq.set {t : List PV} {g : Nat} {u : PV} (h : PEq u (t.getD g .any)) : LEq (t.set g u) t := by
  refine ⟨by simp, fun k => ?_⟩
  by_cases hk : g = k
  · subst hk
    by_cases hl : g < t.length
    · have : (t.set g u).getD g .any = u := by simp [List.getD_eq_getElem?_getD, hl]
      rw [this]; exact h
    · have h1 : (t.set g u).getD g .any = .any := getD_ge (by simpa using hl)
      have h2 : t.getD g .any = .any := getD_ge hl
      rw [h1, h2]; exact .refl _
  · have : (t.set g u).getD k .any = t.getD k .any := by simp [List.getD_eq_getElem?_getD, List.getElem?_set_ne hk]
    rw [this]; exact .refl _
theorem set_self {t : List PV} {g : Nat} {u : PV} (h : t.getD g .any ≠ .any) : (t.set g u).getD g .any = u := by
  by_cases hl : g < t.length
  · simp [List.getD_eq_getElem?_getD, hl]
  · exact absurd (getD_ge hl) h

theorem hget_append {h : Heap} {nbs : List Blk} (b : Nat) : hget (h ++ nbs.map some) b = if h.length ≤ b ∧ b < h.length + nbs.length then nbs[b - h.length]? else hget h b := by
  unfold hget
  by_cases hb : b < h.length
  · rw [List.getElem?_append_left hb, if_neg (by omega)]
  · rw [List.getElem?_append_right (by omega), List.getElem?_map]
    by_cases hb' : b < h.length + nbs.length
    · rw [if_pos ⟨by omega, hb'⟩]
      cases nbs[b - h.length]? <;> rfl
    · rw [if_neg (by omega), List.getElem?_eq_none (by omega : nbs.length ≤ b - h.length), List.getElem?_eq_none (by omega : h.length ≤ b)]
      rfl
theorem putW_length : ∀ (ws : Ws) (h : Heap), (putW h ws).length = h.length
  | [], _ => rfl
  | (b, k) :: ws, h => by simp [putW, putW_length ws]
theorem hget_set {h : Heap} {c : Nat} {k : Option Blk} (hc : c < h.length) (b : Nat) : hget (h.set c k) b = if b = c then k else hget h b := by
  unfold hget
  by_cases hb : b = c
  · subst hb
    rw [List.getElem?_set_self hc, if_pos rfl]
    cases k <;> rfl
  · rw [List.getElem?_set_ne (Ne.symm hb), if_neg hb]
theorem hget_putW : ∀ (ws : Ws) (h : Heap), (∀ b k, (b, k) ∈ ws → b < h.length) → (∀ b k k', (b, k) ∈ ws → (b, k') ∈ ws → k = k') → ∀ b, hget (putW h ws) b = match wlook ws b with | some k => k | none => hget h b
  | [], h, _, _, b => rfl
  | (c, k) :: ws, h, hl, hnd, b => by
    simp only [putW]
    rw [hget_putW ws _ (fun b k hb => by simp; exact hl b k (by simp [hb])) (fun b k k' h1 h2 => hnd b k k' (by simp [h1]) (by simp [h2])) b]
    have hc := hl c k (by simp)
    by_cases hbc : c = b
    · subst hbc
      simp only [wlook, if_true]
      cases hw : wlook ws c with
      | none => simp only; rw [hget_set hc, if_pos rfl]
      | some k' => simp only; exact hnd c k' k (by simp [wlook_mem hw]) (by simp)
    · simp only [wlook, if_neg hbc]
      cases hw : wlook ws b with
      | none => simp only; rw [hget_set hc, if_neg (Ne.symm hbc)]
      | some k' => rfl
theorem hget_putE {s : St} {dst : Option Nat} {e : Eff} (hl : ∀ b k, (b, k) ∈ e.2.1 → b < s.h.length) (hnd : ∀ b k k', (b, k) ∈ e.2.1 → (b, k') ∈ e.2.1 → k = k') (b : Nat) :
    hget (putE s dst e).h b = effH (hget s.h) s.h.length e b := by
  simp only [putE]
  rw [hget_putW _ _ (fun b k hb => by have := hl b k hb; simp; omega) hnd]
  simp only [effH]
  cases wlook e.2.1 b with
  | some k => rfl
  | none => simp only; exact hget_append b
theorem mask_hget : ∀ (u : List Nat) (h : Heap) (n b : Nat) (k : Blk), hget (mask u n h) b = some k → hget h b = some k ∧ u.contains (n + b) = true
  | _, [], _, b, k, hk => by simp [mask, hget] at hk
  | u, x :: h, n, 0, k, hk => by
    simp only [mask] at hk
    cases hc : u.contains n with
    | true => rw [hc] at hk; exact ⟨hk, rfl⟩
    | false => rw [hc] at hk; simp [hget] at hk
  | u, x :: h, n, b + 1, k, hk => by
    simp only [mask] at hk
    have hk' : hget (mask u (n + 1) h) b = some k := by simpa [hget] using hk
    obtain ⟨h1, h2⟩ := mask_hget u h (n + 1) b k hk'
    exact ⟨by simpa [hget] using h1, by rwa [show n + 1 + b = n + (b + 1) by omega] at h2⟩
theorem disj_spec {a b : List Nat} (h : disj a b = true) {x : Nat} (hx : x ∈ a) : x ∉ b := by
  have := List.all_eq_true.1 h x hx
  simpa using this
theorem upto_mem {a n x : Nat} (h : a ≤ x ∧ x < a + n) : x ∈ upto a n := by
  have := upto_get n a (x - a) (by omega)
  rw [show a + (x - a) = x by omega] at this
  exact List.mem_of_getElem? this

/-- The short records stand for the long ones. -/
def RcOK : List Rc → List RecP → Prop
  | [], [] => True
  | c :: cs, r :: rs => ((∀ b, r.u b → b ∈ c.u) ∧ (∀ b, r.T b → b ∈ c.wr)) ∧ RcOK cs rs
  | _, _ => False
theorem RcOK.len : ∀ {cs : List Rc} {rs : List RecP}, RcOK cs rs → cs.length = rs.length
  | [], [], _ => rfl
  | _ :: _, _ :: _, h => by simp [RcOK.len h.2]
  | [], _ :: _, h => h.elim
  | _ :: _, [], h => h.elim
theorem clash_spec {row : Nat} {u wr : List Nat} : ∀ {cs : List Rc} {rs : List RecP}, RcOK cs rs → clash row u wr cs = true → ∀ j r', At rs j r' →
    Nat.testBit row j = true ∨ ∀ b, (r'.T b → b ∉ u) ∧ (b ∈ wr → ¬ r'.u b) ∧ (b ∈ wr → ¬ r'.T b)
  | [], [], _, _, j, r', h => h.elim
  | c :: cs, r :: rs, h, hc, j, r', ha => by
    simp only [clash, Bool.and_eq_true, Bool.or_eq_true] at hc
    rcases ha with ⟨h1, h2⟩ | ha
    · subst h1; subst h2
      rw [h.2.len] at hc
      rcases hc.1 with h3 | ⟨⟨h3, h4⟩, h5⟩
      · exact .inl h3
      · exact .inr fun b => ⟨fun hb => disj_spec h3 (h.1.2 b hb), fun hb hu => disj_spec h4 hb (h.1.1 b hu), fun hb hT => disj_spec h5 hb (h.1.2 b hT)⟩
    · exact clash_spec h.2 hc.2 j r' ha
  | [], _ :: _, h, _, _, _, _ => h.elim
  | _ :: _, [], h, _, _, _, _ => h.elim

/-- The two modes. -/
def OrdOf : Option (List Nat) → Nat → Nat → Prop
  | none => fun _ _ => True
  | some rows => fun j i => Nat.testBit (rows.getD i 0) j = true
section
variable {P : Program} {G : World → (Nat → Prop) → Prop} {ops : Array Oper} {s0 : St} {O : Orc} {pol : Pol} {w0 : Nat} {K : St → Tr} {x : Res}
theorem evOps_ok (hG : GOk G) (hO : OrcOK P G O) (rowsAll : Option (List Nat)) (hrows : ∀ r, rowsAll = some r → RowsOK ops r) : ∀ (n : Nat) (d : Option (List Nat)) (rcs : List Rc) (l : List Oper) (s : St) (rs : List RecP),
    (evOps P O pol ops w0 K n d rcs l s).run = some x → RunOK P G ops (OrdOf rowsAll) s0 rs s → l = ops.toList.drop rs.length → d = rowsAll.map (·.drop rs.length) → (rowsAll ≠ none → RcOK rcs rs) →
    ∃ rs' sN, RunOK P G ops (OrdOf rowsAll) s0 rs' sN ∧ rs'.length = ops.size ∧ (K sN).run = some x
  | 0, _, _, _, _, _, h, _, _, _, _ => by simp [evOps, Tr.run] at h
  | n + 1, d, rcs, [], s, rs, h, hrun, hl, hd, hrc => by
    simp only [evOps] at h
    refine ⟨rs, s, hrun, ?_, h⟩
    have h1 := congrArg List.length hl
    simp at h1
    have h2 : rs.length ≤ ops.size := by
      cases rs with
      | nil => simp
      | cons r rs =>
        cases hrun with
        | cons _ s1 _ _ _ hs _ =>
          have := (Array.getElem?_eq_some_iff.1 hs.op).1
          simp; omega
    omega
  | n + 1, d, rcs, o :: r, s, rs, h, hrun, hl, hd, hrc => by
    have hop : ops[rs.length]? = some o := by
      have : (ops.toList.drop rs.length)[0]? = some o := by rw [← hl]; rfl
      simpa using this
    have hr : r = ops.toList.drop (rs.length + 1) := by
      have := congrArg List.tail hl
      simpa [List.tail_drop] using this
    -- the operation is run
    have go : ∀ (t : List PV), LEq t s.t → Wn ops t o true →
        ((match (generalizing := false) d with
          | none => popO P O pol.wr (ownD pol o.dst) t s.h.length s.h o.op (w0 + n) fun e => evOps P O pol ops w0 K n none [] r (putE { s with t := t } o.dst e)
          | some rows => popO P O pol.wr (ownD pol o.dst) t s.h.length (mask (usesO t s.h o.op) 0 s.h) o.op (w0 + n) fun e =>
            match clash (rows.headD 0) (usesO t s.h o.op) (touch s.h.length e) rcs with
            | true => evOps P O pol ops w0 K n (some rows.tail) (⟨usesO t s.h o.op, touch s.h.length e⟩ :: rcs) r (putE { s with t := t } o.dst e)
            | false => .no (w0 + n)) : Tr).run = some x →
        ∃ rs' sN, RunOK P G ops (OrdOf rowsAll) s0 rs' sN ∧ rs'.length = ops.size ∧ (K sN).run = some x := by
      intro t ht hw hrun2
      cases hra : rowsAll with
      | none =>
        rw [hra] at hd
        simp at hd; subst hd
        simp only at hrun2
        obtain ⟨e, h1, h2, h3⟩ := popO_ok hG hO hrun2
        rw [← hra]
        refine evOps_ok hG hO rowsAll hrows n none [] r _ (⟨o, s.h.length, e, t, hget s.h, fun _ => True, true⟩ :: rs) h3
          (.cons rs s _ _ hrun ⟨hop, ht, rfl, fun b k hb => ⟨hb, trivial⟩, .inl ⟨hw, h1, h2⟩, rfl, by simp [putE, putW_length], fun b => hget_putE (fun b k hb => ?_) h2.hnd b⟩ (fun j r' hj => by rw [hra]; exact .inl trivial))
          (by simpa using hr) (by rw [hra]; rfl) (fun hne => absurd hra hne)
        obtain ⟨kb, hkb⟩ := h2.hl b k hb
        exact hget_lt hkb
      | some rows =>
        rw [hra] at hd
        simp at hd; subst hd
        simp only at hrun2
        obtain ⟨e, h1, h2, h3⟩ := popO_ok hG hO hrun2
        split at h3
        case h_2 => cases h3
        rename_i hcl
        have hrc' := hrc (by rw [hra]; simp)
        have hlive : ∀ b k, (b, k) ∈ e.2.1 → b < s.h.length := fun b k hb => by
          obtain ⟨kb, hkb⟩ := h2.hl b k hb
          exact hget_lt (mask_hget _ _ _ _ _ hkb).1
        have hT : ∀ b, (∃ k, (b, k) ∈ e.2.1) ∨ (s.h.length ≤ b ∧ b < s.h.length + e.2.2.length) → b ∈ touch s.h.length e := by
          intro b hb
          unfold touch
          rcases hb with ⟨k, hk⟩ | hb
          · exact List.mem_append.2 (.inl (List.mem_map.2 ⟨_, hk, rfl⟩))
          · exact List.mem_append.2 (.inr (upto_mem hb))
        rw [← hra]
        refine evOps_ok hG hO rowsAll hrows n _ _ r _ (⟨o, s.h.length, e, t, hget (mask (usesO t s.h o.op) 0 s.h), fun b => b ∈ usesO t s.h o.op, true⟩ :: rs) h3
          (.cons rs s _ _ hrun ⟨hop, ht, rfl, fun b k hb => ?_, .inl ⟨hw, h1, h2⟩, rfl, by simp [putE, putW_length], fun b => hget_putE (s := { s with t := t }) (dst := o.dst) hlive h2.hnd b⟩ (fun j r' hj => ?_))
          (by simpa using hr) (by rw [hra]; simp [List.tail_drop]) (fun _ => ⟨⟨fun b hb => hb, fun b hb => hT b hb⟩, hrc'⟩)
        · obtain ⟨h4, h5⟩ := mask_hget _ _ _ _ _ hb
          exact ⟨h4, by simpa using h5⟩
        · have hj' := hj.lt
          obtain ⟨_, s1, s1', _, hs1, _⟩ := hrun.step hj
          have hhead : (rows.drop rs.length).headD 0 = rows.getD rs.length 0 := by
            rw [List.headD_eq_head?_getD, List.head?_drop, List.getD_eq_getElem?_getD]
          rw [hhead] at hcl
          rw [hra]
          rcases (hrows rows hra).apart _ _ _ _ hop hs1.op hj' with h4 | h4
          · exact .inl h4
          · rcases clash_spec hrc' hcl j r' hj with h5 | h5
            · exact .inl h5
            · exact .inr ⟨h4, fun b => ⟨(h5 b).1, fun hb => (h5 b).2.1 (hT b hb), fun hb => (h5 b).2.2 (hT b hb)⟩⟩
    have skip : ∀ (t : List PV), LEq t s.t → Wn ops t o false →
        ((match (generalizing := false) d with
          | none => evOps P O pol ops w0 K n none [] r { s with t := putT t o.dst .und }
          | some rows => evOps P O pol ops w0 K n (some rows.tail) (⟨[], []⟩ :: rcs) r { s with t := putT t o.dst .und }) : Tr).run = some x →
        ∃ rs' sN, RunOK P G ops (OrdOf rowsAll) s0 rs' sN ∧ rs'.length = ops.size ∧ (K sN).run = some x := by
      intro t ht hw hrun2
      have hstep : StepOK P G ops rs.length s ⟨o, s.h.length, (.und, [], []), t, fun _ => none, fun _ => False, false⟩ { s with t := putT t o.dst .und } :=
        ⟨hop, ht, rfl, fun b k hb => by simp at hb, .inr ⟨hw, rfl⟩, rfl, rfl, fun b => by simp only [effH, wlook]; rw [if_neg (by simp)]⟩
      cases hra : rowsAll with
      | none =>
        rw [hra] at hd
        simp at hd; subst hd
        simp only at hrun2
        rw [← hra]
        exact evOps_ok hG hO rowsAll hrows n none [] r _ (_ :: rs) hrun2 (.cons rs s _ _ hrun hstep (fun j r' hj => by rw [hra]; exact .inl trivial))
          (by simpa using hr) (by rw [hra]; rfl) (fun hne => absurd hra hne)
      | some rows =>
        rw [hra] at hd
        simp at hd; subst hd
        simp only at hrun2
        have hrc' := hrc (by rw [hra]; simp)
        rw [← hra]
        have noT : ∀ b, ¬ (RecP.T ⟨o, s.h.length, (.und, [], []), t, fun _ => none, fun _ => False, false⟩ b) := by
          intro b hb
          rcases hb with ⟨k, hk⟩ | hb
          · simp at hk
          · simp at hb; omega
        refine evOps_ok hG hO rowsAll hrows n _ _ r _ (_ :: rs) hrun2 (.cons rs s _ _ hrun hstep (fun j r' hj => ?_))
          (by simpa using hr) (by rw [hra]; simp [List.tail_drop]) (fun _ => ⟨⟨fun b hb => hb.elim, fun b hb => absurd hb (noT b)⟩, hrc'⟩)
        obtain ⟨_, s1, s1', _, hs1, _⟩ := hrun.step hj
        rw [hra]
        rcases (hrows rows hra).apart _ _ _ _ hop hs1.op hj.lt with h4 | h4
        · exact .inl h4
        · exact .inr ⟨h4, fun b => ⟨fun _ h => h, fun hb => absurd hb (noT b), fun hb => absurd hb (noT b)⟩⟩
    simp only [evOps] at h
    have wn : ∀ (t : List PV) (b : Bool) (j g : Nat) (w : Bool), o.guard = some (j, w) → (ops[j]?).bind (·.dst) = some g →
        (∀ (w0 : World) (S : Nat → Prop) (μ : Mu) (x : Value), RepV w0 S μ (t.getD g .any) x → (boolOf x == some w) = b) → Wn ops t o b := by
      intro t b j g w hg hgd hx
      unfold Wn
      rw [hg]
      exact ⟨g, hgd, hx⟩
    have wbl : ∀ (t : List PV) (g : Nat) (c : Bool) (w : Bool), t.getD g .any = .bl c → ∀ (w0 : World) (S : Nat → Prop) (μ : Mu) (x : Value), RepV w0 S μ (t.getD g .any) x → (boolOf x == some w) = (c == w) := by
      intro t g c w ht w0 S μ x hx
      rw [ht] at hx
      rw [repV_bl hx]
      cases c <;> cases w <;> rfl
    split at h
    · rename_i hg
      exact go s.t (.refl _) (by unfold Wn; rw [hg]) h
    · rename_i j w hg
      split at h
      case h_1 => cases h
      rename_i g hgd
      split at h
      · rename_i hv
        split at h
        · exact go s.t (.refl _) (wn _ _ j g _ hg hgd (wbl _ g true true hv)) h
        · exact skip s.t (.refl _) (wn _ _ j g _ hg hgd (wbl _ g true false hv)) h
      · rename_i hv
        split at h
        · exact skip s.t (.refl _) (wn _ _ j g _ hg hgd (wbl _ g false true hv)) h
        · exact go s.t (.refl _) (wn _ _ j g _ hg hgd (wbl _ g false false hv)) h
      · rename_i c hv
        have hne : s.t.getD g .any ≠ .any := by rw [hv]; exact fun h => by cases h
        have e1 : c = true → LEq (s.t.set g (.bl true)) s.t := fun hc => .set (by rw [hv]; exact PEq.bl hc)
        have e2 : c = false → LEq (s.t.set g (.bl false)) s.t := fun hc => .set (by rw [hv]; exact PEq.bl' hc)
        split at h
        · simp only [Tr.run] at h
          cases c with
          | true => exact go _ (e1 rfl) (wn _ _ j g _ hg hgd (wbl _ g true true (set_self hne))) h
          | false => exact skip _ (e2 rfl) (wn _ _ j g _ hg hgd (wbl _ g false true (set_self hne))) h
        · simp only [Tr.run] at h
          cases c with
          | true => exact skip _ (e1 rfl) (wn _ _ j g _ hg hgd (wbl _ g true false (set_self hne))) h
          | false => exact go _ (e2 rfl) (wn _ _ j g _ hg hgd (wbl _ g false false (set_self hne))) h
      · rename_i hv
        refine skip s.t (.refl _) (wn _ _ j g _ hg hgd fun w1 S μ x hx => ?_) h
        rw [hv] at hx
        cases hx with
        | und => rfl
        | cell _ _ _ _ h => cases h
        | agg _ _ _ hv => cases hv
      · cases h
/-- A region. -/
theorem region_ok (hG : GOk G) (hO : OrcOK P G O) (hmix : P.follows .mixedOrders = true) {id : Nat} {dr : Bool} {E : Env} {s : St} {n : Nat} {K' : Exit → St → Tr} {L : Lps} {m : Nat} (hm : E.m ≤ s.h.length)
    (h : (evC P O L pol n m (.region id ops dr) K' s).run = some x) : ∃ sN, (K' .normal sN).run = some x ∧ s.h.length ≤ sN.h.length ∧
      ∀ (Q : Exit → Act → World → Prop) (a : Act) (w : World), (∀ a w, SInv G E sN a w → Q .normal a w) → SInv G E s a w → (Code.region id ops dr).wp P Q a w := by
  simp only [evC] at h
  split at h
  · obtain ⟨rs, sN, h1, h2, h3⟩ := evOps_ok hG hO none (fun r hr => by cases hr) _ none [] _ s [] h .nil (by simp) rfl (fun h => absurd rfl h)
    exact ⟨sN, h3, h1.len, fun Q a w hQ hi => wp_region (run_seq hG h1 h2 hm hQ hi)⟩
  · split at h
    case h_2 => cases h
    rename_i rows hr
    obtain ⟨rs, sN, h1, h2, h3⟩ := evOps_ok hG hO (some rows) (fun r hr' => by cases hr'; exact rowsOK hr) _ (some rows) [] _ s [] h .nil (by simp) rfl (fun _ => trivial)
    exact ⟨sN, h3, h1.len, fun Q a w hQ hi => wp_region_any hmix (run_any hG (rowsOK hr) h1 h2 hm hQ (hi.drawn hG))⟩
end
end Go.Proofs.YtejfdhcigkgbmaaDoor.PE
/-! A function's code. -/
namespace Go.Proofs.YtejfdhcigkgbmaaDoor.PE
open Go

/-! ### Numbering anew -/
def Ren (I : List Nat) (v v' : PV) : Prop := isAgg v' = isAgg v ∧ ∀ (w : World) (S : Nat → Prop) (μ : Mu), (∀ cs, RepC w S μ v cs → RepC w S (muOf μ I) v' cs) ∧ (∀ x, RepV w S μ v x → RepV w S (muOf μ I) v' x)
def RenL (I : List Nat) (vs vs' : List PV) : Prop := ∀ (w : World) (S : Nat → Prop) (μ : Mu), (∀ cs, RepL w S μ vs cs → RepL w S (muOf μ I) vs' cs) ∧ (∀ x, RepVL w S μ vs x → RepVL w S (muOf μ I) vs' x)
theorem posOf_spec {b : Nat} : ∀ (ids : List Nat) (n k : Nat), posOf b ids n = some k → n ≤ k ∧ ids[k - n]? = some b
  | [], n, k, h => by simp [posOf] at h
  | c :: r, n, k, h => by
    simp only [posOf] at h
    split at h
    · rename_i hc
      simp at hc h; subst hc; subst h
      simp
    · obtain ⟨h1, h2⟩ := posOf_spec r (n + 1) k h
      refine ⟨by omega, ?_⟩
      rw [show k - n = k - (n + 1) + 1 by omega]
      simpa using h2
theorem posOf_none {b : Nat} : ∀ (ids : List Nat) (n : Nat), posOf b ids n = none → b ∉ ids
  | [], _, _ => by simp
  | c :: r, n, h => by
    simp only [posOf] at h
    split at h
    · cases h
    · rename_i hc
      have := posOf_none r (n + 1) h
      simp at hc
      simp [this, Ne.symm hc]
theorem renum_spec {ids ids' : List Nat} {b n : Nat} (h : renum ids b = (n, ids')) (hn : ids.Nodup) : (∃ tl, ids' = ids ++ tl) ∧ ids'.Nodup ∧ ids'[n]? = some b := by
  unfold renum at h
  split at h
  · rename_i k hk
    simp at h; obtain ⟨rfl, rfl⟩ := h
    obtain ⟨_, h2⟩ := posOf_spec _ _ _ hk
    exact ⟨⟨[], by simp⟩, hn, by simpa using h2⟩
  · rename_i hk
    simp at h; obtain ⟨rfl, rfl⟩ := h
    refine ⟨⟨[b], rfl⟩, ?_, by simp⟩
    rw [List.nodup_append]
    refine ⟨hn, by simp, fun x hx y hy => ?_⟩
    simp at hy; subst hy
    intro he; subst he
    exact posOf_none _ _ hk hx
theorem muOf_at {μ : Mu} {I ids tl : List Nat} {n b : Nat} (hI : I = ids ++ tl) (h : ids[n]? = some b) : muOf μ I n = μ b := by
  subst hI
  have hlt := (List.getElem?_eq_some_iff.1 h).1
  simp [muOf, List.getElem?_append_left hlt, h]
theorem renL_spec {g : PV → List Nat → Option (PV × List Nat)}
    (hg : ∀ v ids v' ids', g v ids = some (v', ids') → ids.Nodup → (∃ tl, ids' = ids ++ tl) ∧ ids'.Nodup ∧ ∀ I tl, I = ids' ++ tl → Ren I v v') :
    ∀ (vs : List PV) (ids : List Nat) (vs' : List PV) (ids' : List Nat), renL g vs ids = some (vs', ids') → ids.Nodup → (∃ tl, ids' = ids ++ tl) ∧ ids'.Nodup ∧ ∀ I tl, I = ids' ++ tl →
      RenL I vs vs' ∧ vs'.length = vs.length ∧ ∀ (k : Nat) (v : PV), vs[k]? = some v → ∃ v', vs'[k]? = some v' ∧ Ren I v v'
  | [], ids, vs', ids', h, hn => by
    simp [renL] at h; obtain ⟨rfl, rfl⟩ := h
    exact ⟨⟨[], by simp⟩, hn, fun I tl _ => ⟨fun w S μ => ⟨fun cs h => by cases h; exact .nil _, fun cs h => by cases h; exact .nil _⟩, rfl, fun k v h => by simp at h⟩⟩
  | v :: vs, ids, vs', ids', h, hn => by
    simp only [renL] at h
    split at h
    case h_2 => cases h
    rename_i v1 ids1 h1
    split at h
    case h_2 => cases h
    rename_i vs2 ids2 h2
    simp at h; obtain ⟨rfl, rfl⟩ := h
    obtain ⟨⟨tl1, e1⟩, n1, r1⟩ := hg _ _ _ _ h1 hn
    obtain ⟨⟨tl2, e2⟩, n2, r2⟩ := renL_spec hg _ _ _ _ h2 n1
    refine ⟨⟨tl1 ++ tl2, by rw [e2, e1, List.append_assoc]⟩, n2, fun I tl hI => ?_⟩
    have ra := r1 I (tl2 ++ tl) (by rw [hI, e2, List.append_assoc])
    obtain ⟨rb, rc, rd⟩ := r2 I tl hI
    refine ⟨fun w S μ => ⟨fun cs h => ?_, fun cs h => ?_⟩, by simp [rc], fun k u hk => ?_⟩
    · cases h with | cons _ _ _ c d h h' => exact .cons _ _ _ _ _ ((ra.2 w S μ).1 _ h) ((rb w S μ).1 _ h')
    · cases h with | cons _ _ _ c d h h' => exact .cons _ _ _ _ _ ((ra.2 w S μ).2 _ h) ((rb w S μ).2 _ h')
    · cases k with
      | zero => simp at hk; subst hk; exact ⟨v1, rfl, ra⟩
      | succ k => simp at hk; simpa using rd k u hk
theorem renV_spec : ∀ (d : Nat) (v : PV) (ids : List Nat) (v' : PV) (ids' : List Nat), renV d v ids = some (v', ids') → ids.Nodup → (∃ tl, ids' = ids ++ tl) ∧ ids'.Nodup ∧ ∀ I tl, I = ids' ++ tl → Ren I v v'
  | 0, _, _, _, _, h, _ => by simp [renV] at h
  | d + 1, v, ids, v', ids', h, hn => by
    have ih := renL_spec (g := renV d) (renV_spec d)
    have same : ids' = ids → (∃ tl, ids' = ids ++ tl) ∧ ids'.Nodup := fun e => by subst e; exact ⟨⟨[], by simp⟩, hn⟩
    have fin : ∀ (I : List Nat), isAgg v' = isAgg v → (∀ (w : World) (S : Nat → Prop) (μ : Mu) (cs : List Value), RepC w S μ v cs → RepC w S (muOf μ I) v' cs) →
        (∀ (w : World) (S : Nat → Prop) (μ : Mu) (vs : List PV) (xs : List Value), v = .tup vs → RepVL w S μ vs xs → RepV w S (muOf μ I) v' (.tuple xs.toArray)) →
        (∀ (w : World) (S : Nat → Prop) (μ : Mu), v = .und → RepV w S (muOf μ I) v' undef) → (∀ (w : World) (S : Nat → Prop) (μ : Mu) (x : Value), v = .any → RepV w S (muOf μ I) v' x) → Ren I v v' := by
      intro I h1 h2 h3 h4 h5
      refine ⟨h1, fun w S μ => ⟨fun cs => h2 w S μ cs, fun x hx => ?_⟩⟩
      cases hx with
      | cell _ _ _ hv h => exact .cell _ _ _ (h1.trans hv) (h2 w S μ _ h)
      | agg _ _ _ hv h => exact .agg _ _ _ (h1.trans hv) (h2 w S μ _ h)
      | und => exact h4 w S μ rfl
      | any => exact h5 w S μ x rfl
      | tup _ vs xs hr => exact h3 w S μ vs xs rfl hr
    cases v <;> simp only [renV] at h
    case sl b e off len =>
      simp at h
      obtain ⟨rfl, rfl⟩ := h
      obtain ⟨h1, h2, h3⟩ := renum_spec (b := b) rfl hn
      refine ⟨h1, h2, fun I tl hI => fin I rfl (fun w S μ cs hr => ?_) (fun _ _ _ _ _ h => by cases h) (fun _ _ _ h => by cases h) (fun _ _ _ _ h => by cases h)⟩
      cases hr with
      | sl => exact .sl _ _ _ _ _ _ _ _ _ ((muOf_at hI h3).trans (by assumption)) (by assumption) (by assumption) (by assumption)
    case ptr b e i off p =>
      simp at h
      obtain ⟨rfl, rfl⟩ := h
      obtain ⟨h1, h2, h3⟩ := renum_spec (b := b) rfl hn
      refine ⟨h1, h2, fun I tl hI => fin I rfl (fun w S μ cs hr => ?_) (fun _ _ _ _ _ h => by cases h) (fun _ _ _ h => by cases h) (fun _ _ _ _ h => by cases h)⟩
      cases hr with
      | ptr => exact .ptr _ _ _ _ _ _ _ _ ((muOf_at hI h3).trans (by assumption))
    case agg vs =>
      split at h
      case h_2 => cases h
      rename_i ws ids1 hws
      simp at h; obtain ⟨rfl, rfl⟩ := h
      obtain ⟨h1, h2, h3⟩ := ih _ _ _ _ hws hn
      refine ⟨h1, h2, fun I tl hI => fin I rfl (fun w S μ cs hr => ?_) (fun _ _ _ _ _ h => by cases h) (fun _ _ _ h => by cases h) (fun _ _ _ _ h => by cases h)⟩
      cases hr with
      | agg _ _ _ hr => exact .agg _ _ _ (((h3 I tl hI).1 w S μ).1 _ hr)
    case tup vs =>
      split at h
      case h_2 => cases h
      rename_i ws ids1 hws
      simp at h; obtain ⟨rfl, rfl⟩ := h
      obtain ⟨h1, h2, h3⟩ := ih _ _ _ _ hws hn
      refine ⟨h1, h2, fun I tl hI => fin I rfl (fun w S μ cs hr => by cases hr) (fun w S μ us xs h hr => ?_) (fun _ _ _ h => by cases h) (fun _ _ _ _ h => by cases h)⟩
      cases h
      exact .tup _ _ _ (((h3 I tl hI).1 w S μ).2 _ hr)
    case clo f vs =>
      split at h
      case h_2 => cases h
      rename_i ws ids1 hws
      simp at h; obtain ⟨rfl, rfl⟩ := h
      obtain ⟨h1, h2, h3⟩ := ih _ _ _ _ hws hn
      refine ⟨h1, h2, fun I tl hI => fin I rfl (fun w S μ cs hr => ?_) (fun _ _ _ _ _ h => by cases h) (fun _ _ _ h => by cases h) (fun _ _ _ _ h => by cases h)⟩
      cases hr with
      | clo _ _ _ xs hr => exact .clo _ _ _ _ (((h3 I tl hI).1 w S μ).2 _ hr)
    case ifc T u =>
      split at h
      case h_2 => cases h
      rename_i ws ids1 hws
      simp at h; obtain ⟨rfl, rfl⟩ := h
      obtain ⟨h1, h2, h3⟩ := renV_spec d _ _ _ _ hws hn
      refine ⟨h1, h2, fun I tl hI => fin I rfl (fun w S μ cs hr => ?_) (fun _ _ _ _ _ h => by cases h) (fun _ _ _ h => by cases h) (fun _ _ _ _ h => by cases h)⟩
      cases hr with
      | ifc _ _ _ x hr => exact .ifc _ _ _ _ (((h3 I tl hI).2 w S μ).2 _ hr)
    case und =>
      simp at h; obtain ⟨rfl, rfl⟩ := h
      exact ⟨(same rfl).1, hn, fun I tl hI => fin I rfl (fun w S μ cs hr => by cases hr) (fun _ _ _ _ _ h => by cases h) (fun _ _ _ _ => .und _) (fun _ _ _ _ h => by cases h)⟩
    case any =>
      simp at h; obtain ⟨rfl, rfl⟩ := h
      exact ⟨(same rfl).1, hn, fun I tl hI => fin I rfl (fun w S μ cs hr => by cases hr) (fun _ _ _ _ _ h => by cases h) (fun _ _ _ h => by cases h) (fun _ _ _ _ _ => .any _ _)⟩
    case fr =>
      simp at h; obtain ⟨rfl, rfl⟩ := h
      exact ⟨(same rfl).1, hn, fun I tl hI => fin I rfl (fun w S μ cs hr => by cases hr) (fun _ _ _ _ _ h => by cases h) (fun _ _ _ h => by cases h) (fun _ _ _ _ h => by cases h)⟩
    all_goals
      simp at h; obtain ⟨rfl, rfl⟩ := h
      refine ⟨(same rfl).1, hn, fun I tl hI => fin I rfl (fun w S μ cs hr => ?_) (fun _ _ _ _ _ h => by cases h) (fun _ _ _ h => by cases h) (fun _ _ _ _ h => by cases h)⟩
      cases hr
      first
        | exact .b _ _
        | exact .bl _ _
        | exact .i _ _ _
        | exact .s _ _
        | exact .q _ _ _ (by assumption)
        | exact .nil _
        | exact .nilf _
        | exact .nili _
        | exact .nilp _
        | exact .w _ _ _ (by assumption)
        | exact .lst _ _ _ _ _ _ _ (by assumption) (by assumption) (by assumption) (by assumption) (by assumption)
        | exact .ref _ _ _ _ _ (by assumption) (by assumption) (by assumption)
/-- A block numbered anew. -/
def RenB (I : List Nat) (b b' : Option Blk) : Prop :=
  match b, b' with
  | some k, some k' => ∀ (w : World) (S : Nat → Prop) (μ : Mu) (a z : Nat), BlkRel w S μ k a z → BlkRel w S (muOf μ I) k' a z
  | none, none => True
  | _, _ => False
theorem BlkRel.fixed {w : World} {S : Nat → Prop} {μ μ' : Mu} {k : Blk} {a z : Nat} (hr : rowMu μ k.c = rowMu μ' k.c) (h : BlkRel w S μ k a z) : BlkRel w S μ' k a z := by
  obtain ⟨c, T, cs, h1, h2, h3, h4, h5, h6⟩ := h
  exact ⟨c, T, cs, h1, h2, h3, by rw [← hr]; exact h4, h5, h6⟩
theorem RenB.same {I : List Nat} : ∀ (b : Option Blk), (∀ (e : Nat) (vs : List PV), b = some ⟨e, .vals vs⟩ → False) → RenB I b b
  | none, _ => trivial
  | some ⟨e, .vals vs⟩, hb => (hb e vs rfl).elim
  | some ⟨_, .ints _ _⟩, _ => fun _ _ _ _ _ hr => hr.fixed rfl
  | some ⟨_, .rats _ _⟩, _ => fun _ _ _ _ _ hr => hr.fixed rfl
  | some ⟨_, .fn _ _⟩, _ => fun _ _ _ _ _ hr => hr.fixed rfl
theorem renB_spec {b : Option Blk} {ids : List Nat} {b' : Option Blk} {ids' : List Nat} (h : renB b ids = some (b', ids')) (hn : ids.Nodup) :
    (∃ tl, ids' = ids ++ tl) ∧ ids'.Nodup ∧ ∀ I tl, I = ids' ++ tl → RenB I b b' := by
  unfold renB at h
  split at h
  · rename_i e vs
    split at h
    case h_2 => cases h
    rename_i ws ids1 hws
    simp at h; obtain ⟨rfl, rfl⟩ := h
    obtain ⟨h1, h2, h3⟩ := renL_spec (renV_spec 6) _ _ _ _ hws hn
    refine ⟨h1, h2, fun I tl hI => ?_⟩
    obtain ⟨_, hlen, hat⟩ := h3 I tl hI
    intro w S μ a z hb
    obtain ⟨c, T, cs, g1, g2, g3, g4, g5, g6⟩ := hb
    refine ⟨c, T, cs, g1, g2, by simpa [Cont.len, hlen] using g3, fun i hi => ?_, by simpa [Cont.len, hlen] using g5, by simpa [Cont.len, hlen] using g6⟩
    simp only [Cont.len] at hi g4
    rw [hlen] at hi
    have hv : vs[i]? = some (vs[i]'hi) := List.getElem?_eq_getElem _
    obtain ⟨v', hv', hren⟩ := hat i _ hv
    have := g4 i hi
    simp only [Cont.get, rowMu, List.getD_eq_getElem?_getD, hv, Option.getD_some] at this
    simp only [Cont.get, rowMu, List.getD_eq_getElem?_getD, hv', Option.getD_some]
    exact (hren.2 w S μ).1 _ this
  · rename_i b hb
    simp at h; obtain ⟨rfl, rfl⟩ := h
    refine ⟨⟨[], by simp⟩, hn, fun I tl hI => ?_⟩
    exact RenB.same _ hb
theorem renH_spec {h : Heap} : ∀ (n : Nat) (ids : List Nat) (acc : Heap) (I : List Nat) (H : Heap), renH h n ids acc = some (I, H) → ids.Nodup → acc.length ≤ ids.length →
    (∀ tl, ∀ J, J = ids ++ tl → True) → (∃ tl, I = ids ++ tl) ∧ I.Nodup ∧ H.length = I.length ∧ (∃ tl, H = acc ++ tl) ∧
      ∀ (k b : Nat), acc.length ≤ k → I[k]? = some b → ∃ kb, H[k]? = some kb ∧ RenB I (hget h b) kb
  | 0, _, _, _, _, h, _, _, _ => by simp [renH] at h
  | n + 1, ids, acc, I, H, he, hn, hl, _ => by
    simp only [renH] at he
    split at he
    · rename_i hnone
      simp at he; obtain ⟨rfl, rfl⟩ := he
      have := List.getElem?_eq_none_iff.1 hnone
      refine ⟨⟨[], by simp⟩, hn, by omega, ⟨[], by simp⟩, fun k b hk hb => ?_⟩
      have := (List.getElem?_eq_some_iff.1 hb).1
      omega
    · rename_i b hb
      split at he
      case h_2 => cases he
      rename_i kb ids1 hkb
      obtain ⟨⟨tl1, e1⟩, n1, r1⟩ := renB_spec hkb hn
      have hlt := (List.getElem?_eq_some_iff.1 hb).1
      obtain ⟨⟨tl2, e2⟩, h2, h3, ⟨tl3, e3⟩, h4⟩ := renH_spec n ids1 (acc ++ [kb]) I H he n1 (by rw [e1]; simp; omega) (fun _ _ _ => trivial)
      refine ⟨⟨tl1 ++ tl2, by rw [e2, e1, List.append_assoc]⟩, h2, h3, ⟨[kb] ++ tl3, by rw [e3, List.append_assoc]⟩, fun k c hk hc => ?_⟩
      by_cases hk' : k = acc.length
      · subst hk'
        have : I[acc.length]? = some b := by rw [e2, e1, List.append_assoc, List.getElem?_append_left hlt]; exact hb
        rw [this] at hc; cases hc
        exact ⟨kb, by rw [e3]; simp, r1 I tl2 e2⟩
      · exact h4 k c (by simp; omega) hc
theorem upto_nodup : ∀ (m n : Nat), (upto n m).Nodup
  | 0, _ => .nil
  | m + 1, n => by
    simp only [upto, List.nodup_cons]
    refine ⟨fun h => ?_, upto_nodup m (n + 1)⟩
    have : ∀ (m n x : Nat), x ∈ upto n m → n ≤ x := by
      intro m
      induction m with
      | zero => intro n x h; cases h
      | succ m ih =>
        intro n x h
        simp only [upto, List.mem_cons] at h
        rcases h with rfl | h
        · exact Nat.le_refl _
        · have := ih _ _ h; omega
    have := this _ _ _ h
    omega

theorem loadT_length : ∀ (live : List Nat) (vs t : List PV), (loadT live vs t).length = t.length
  | [], _, _ => rfl
  | _ :: _, [], _ => rfl
  | d :: ds, v :: vs, t => by simp [loadT, loadT_length ds vs]
theorem loadT_get : ∀ (live : List Nat) (vs t : List PV) (k : Nat), (loadT live vs t).getD k .any = t.getD k .any ∨ ∃ (j : Nat) (v : PV), live[j]? = some k ∧ vs[j]? = some v ∧ (loadT live vs t).getD k .any = v
  | [], _, _, _ => .inl rfl
  | _ :: _, [], _, _ => .inl rfl
  | d :: ds, v :: vs, t, k => by
    simp only [loadT]
    rcases loadT_get ds vs (t.set d v) k with h | ⟨j, u, h1, h2, h3⟩
    · by_cases hd : d = k
      · subst hd
        by_cases hl : d < t.length
        · refine .inr ⟨0, v, rfl, rfl, ?_⟩
          rw [h]; simp [List.getD_eq_getElem?_getD, hl]
        · rw [h, getD_ge (by simpa using hl), getD_ge hl]; exact .inl rfl
      · rw [h]
        exact .inl (by simp [List.getD_eq_getElem?_getD, List.getElem?_set_ne hd])
    · exact .inr ⟨j + 1, u, by simpa using h1, by simpa using h2, h3⟩
/-- The loop's state says what was said. -/
theorem save_ok {G : World → (Nat → Prop) → Prop} {E : Env} {live : List Nat} {s : St} {ls : LS} {n : Nat} (h : saveS E.m live s = some ls) (hn : s.t.length = n) {a : Act} {w : World}
    (hi : SInv G E s a w) : SInv G E (loadS n live ls) a w := by
  unfold saveS at h
  split at h
  case h_2 => cases h
  rename_i ts ids hts
  split at h
  case h_2 => cases h
  rename_i I H hH
  simp at h; subst h
  obtain ⟨⟨tl1, e1⟩, n1, r1⟩ := renL_spec (renV_spec 6) _ _ _ _ hts (upto_nodup _ _)
  obtain ⟨⟨tl2, e2⟩, n2, hlen, _, hblk⟩ := renH_spec _ _ _ _ _ hH n1 (Nat.zero_le _) (fun _ _ _ => trivial)
  obtain ⟨_, hl2, hat⟩ := r1 I tl2 e2
  obtain ⟨S, μ, iv⟩ := hi
  have hI : ∀ b, b < E.m → I[b]? = some b := by
    intro b hb
    rw [e2, e1, List.append_assoc, List.getElem?_append_left (by rw [upto_length]; exact hb), upto_get _ _ _ hb, Nat.zero_add]
  -- the blocks
  have live_ : ∀ j k, hget H j = some k → ∃ b k0, I[j]? = some b ∧ hget s.h b = some k0 ∧ ∀ (w : World) (S : Nat → Prop) (μ : Mu) (a z : Nat), BlkRel w S μ k0 a z → BlkRel w S (muOf μ I) k a z := by
    intro j k hj
    have hlt := hget_lt hj
    have hb : I[j]? = some (I[j]'(by omega)) := List.getElem?_eq_getElem _
    obtain ⟨kb, h1, h2⟩ := hblk j _ (Nat.zero_le _) hb
    unfold hget at hj
    rw [h1] at hj
    cases kb with
    | none => cases hj
    | some kb =>
      simp at hj; subst hj
      cases hg : hget s.h (I[j]'(by omega)) with
      | none => rw [hg] at h2; exact h2.elim
      | some k0 => rw [hg] at h2; exact ⟨_, k0, hb, hg, h2⟩
  have muI : ∀ j b, I[j]? = some b → muOf μ I j = μ b := fun j b hj => by simp [muOf, hj]
  refine ⟨S, muOf μ I, iv.g, iv.defers, by simp [loadS, loadT_length]; rw [← iv.len, hn], fun k => ?_, ⟨fun j k hj => ?_, fun j k a z hj hmu => ?_, fun j j' k k' a z z' hj hj' hmu hmu' => ?_, iv.hrel.lt⟩,
    fun b hb => ?_, ⟨iv.link.os, iv.link.tape, iv.link.output, iv.link.size, iv.link.old, iv.link.subS, iv.link.newS, fun b hb => ?_, fun j k a z hj hmu => ?_⟩⟩
  · simp only [loadS]
    rcases loadT_get live ts (List.replicate n .any) k with h | ⟨j, v, h1, h2, h3⟩
    · rw [h]
      have : (List.replicate n PV.any).getD k .any = .any := by
        by_cases hk : k < n
        · simp [List.getD_eq_getElem?_getD, hk]
        · exact getD_ge (by simpa using hk)
      rw [this]; exact .any _ _
    · rw [h3]
      obtain ⟨v', h4, h5⟩ := hat j (s.t.getD k .any) (by rw [List.getElem?_map, h1]; rfl)
      rw [h2] at h4; cases h4
      exact (h5.2 w S μ).2 _ (iv.rep k)
  · obtain ⟨b, k0, h1, h2, h3⟩ := live_ j k hj
    obtain ⟨a, z, h4, h5⟩ := iv.hrel.blk b k0 h2
    exact ⟨a, z, (muI j b h1).trans h4, h3 w S μ a z h5⟩
  · obtain ⟨b, k0, h1, h2, h3⟩ := live_ j k hj
    rw [muI j b h1] at hmu
    exact iv.hrel.sep b k0 a z h2 hmu
  · obtain ⟨b, k0, h1, h2, h3⟩ := live_ j k hj
    obtain ⟨b', k0', h1', h2', h3'⟩ := live_ j' k' hj'
    rw [muI j b h1] at hmu
    rw [muI j' b' h1'] at hmu'
    have := iv.hrel.inj b b' k0 k0' a z z' h2 h2' hmu hmu'
    subst this
    exact nodup_get n2 h1 h1'
  · simp only [loadS] at hb
    unfold muOf
    rw [List.getElem?_eq_none (by omega)]
  · rw [muI b b (hI b hb)]; exact iv.link.mu b hb
  · obtain ⟨b, k0, h1, h2, h3⟩ := live_ j k hj
    rw [muI j b h1] at hmu
    exact iv.link.place b k0 a z h2 hmu
theorem save_len {m : Nat} {live : List Nat} {s : St} {ls : LS} (h : saveS m live s = some ls) : m ≤ ls.h.length := by
  unfold saveS at h
  split at h
  case h_2 => cases h
  rename_i ts ids hts
  split at h
  case h_2 => cases h
  rename_i I H hH
  simp at h; subst h
  obtain ⟨⟨tl1, e1⟩, n1, r1⟩ := renL_spec (renV_spec 6) _ _ _ _ hts (upto_nodup _ _)
  obtain ⟨⟨tl2, e2⟩, n2, hlen, _, hblk⟩ := renH_spec _ _ _ _ _ hH n1 (Nat.zero_le _) (fun _ _ _ => trivial)
  simp only
  rw [hlen, e2, e1]
  simp [upto_length]
end Go.Proofs.YtejfdhcigkgbmaaDoor.PE
namespace Go.Proofs.YtejfdhcigkgbmaaDoor.PE
open Go

/-- From one state to another. -/
structure CodeOK (P : Program) (G : World → (Nat → Prop) → Prop) (n m : Nat) (c : Code) (s : St) (e : Exit) (sN : St) : Prop where
  len : sN.t.length = n
  le : m ≤ sN.h.length
  wp : ∀ (E : Env), E.m = m → ∀ (Q : Exit → Act → World → Prop) (a : Act) (w : World), (∀ a w, SInv G E sN a w → Q e a w) → SInv G E s a w → c.wp P Q a w
def LoopOK (P : Program) (G : World → (Nat → Prop) → Prop) (n m : Nat) (live : List Nat) (body : Code) (sp : LSpec) : Prop :=
  ∀ (ls : LS) (K : Exit → LS → Tr) (x : Res), m ≤ ls.h.length → (sp ls K).run = some x → ∃ e ls', CodeOK P G n m (.loop body) (loadS n live ls) e (loadS n live ls') ∧ (K e ls').run = some x
def loopsOf : Code → List Code
  | .seq a b => loopsOf a ++ loopsOf b
  | .cond _ a b => loopsOf a ++ loopsOf b
  | .block _ a => loopsOf a
  | .loop a => a :: loopsOf a
  | _ => []
def LpsOK (P : Program) (G : World → (Nat → Prop) → Prop) (pol : Pol) (n m : Nat) (L : Lps) (c : Code) : Prop :=
  ∀ a ∈ loopsOf c, ∀ live sp, assoc (firstReg a) pol.live = some live → Lps.look (firstReg a) L = some sp → LoopOK P G n m live a sp

section
variable {P : Program} {G : World → (Nat → Prop) → Prop} {O : Orc} {L : Lps} {pol : Pol} {n m : Nat}
theorem runOK_len {ops : Array Oper} {ord : Nat → Nat → Prop} {s0 sN : St} {rs : List RecP} (h : RunOK P G ops ord s0 rs sN) : sN.t.length = s0.t.length := by
  have := h.all.1.len
  rw [tX_length] at this
  exact this.symm
theorem region_ok2 (hG : GOk G) (hO : OrcOK P G O) (hmix : P.follows .mixedOrders = true) {id : Nat} {ops : Array Oper} {dr : Bool} {s : St} {K : Exit → St → Tr} {x : Res} (hn : s.t.length = n) (hm : m ≤ s.h.length)
    (h : (evC P O L pol n m (.region id ops dr) K s).run = some x) : ∃ e sN, CodeOK P G n m (.region id ops dr) s e sN ∧ (K e sN).run = some x := by
  simp only [evC] at h
  split at h
  · obtain ⟨rs, sN, h1, h2, h3⟩ := evOps_ok hG hO none (fun r hr => by cases hr) _ none [] _ s [] h .nil (by simp) rfl (fun h => absurd rfl h)
    exact ⟨.normal, sN, ⟨(runOK_len h1).trans hn, Nat.le_trans hm h1.len, fun E hE Q a w hQ hi => wp_region (run_seq hG h1 h2 (by rw [hE]; exact hm) hQ hi)⟩, h3⟩
  · split at h
    case h_2 => cases h
    rename_i rows hr
    obtain ⟨rs, sN, h1, h2, h3⟩ := evOps_ok hG hO (some rows) (fun r hr' => by cases hr'; exact rowsOK hr) _ (some rows) [] _ s [] h .nil (by simp) rfl (fun _ => trivial)
    exact ⟨.normal, sN, ⟨(runOK_len h1).trans hn, Nat.le_trans hm h1.len, fun E hE Q a w hQ hi => wp_region_any hmix (run_any hG (rowsOK hr) h1 h2 (by rw [hE]; exact hm) hQ (hi.drawn hG))⟩, h3⟩
theorem evC_ok (hG : GOk G) (hO : OrcOK P G O) (hmix : P.follows .mixedOrders = true) : ∀ (c : Code) (K : Exit → St → Tr) (s : St) (x : Res), LpsOK P G pol n m L c → s.t.length = n → m ≤ s.h.length →
    (evC P O L pol n m c K s).run = some x → ∃ e sN, CodeOK P G n m c s e sN ∧ (K e sN).run = some x
  | .skip, K, s, x, _, hn, hm, h => ⟨.normal, s, ⟨hn, hm, fun E _ Q a w hQ hi => wp_skip (hQ a w hi)⟩, h⟩
  | .exit j, K, s, x, _, hn, hm, h => ⟨.exit j, s, ⟨hn, hm, fun E _ Q a w hQ hi => wp_exit (hQ a w hi)⟩, h⟩
  | .ret, K, s, x, _, hn, hm, h => ⟨.ret, s, ⟨hn, hm, fun E _ Q a w hQ hi => wp_ret (hQ a w hi)⟩, h⟩
  | .region id ops dr, K, s, x, _, hn, hm, h => region_ok2 hG hO hmix hn hm h
  | .seq a b, K, s, x, hl, hn, hm, h => by
    simp only [evC] at h
    obtain ⟨e, s1, h1, h2⟩ := evC_ok hG hO hmix a _ s x (fun c hc => hl c (by simp [loopsOf, hc])) hn hm h
    cases e with
    | normal =>
      obtain ⟨e2, s2, h3, h4⟩ := evC_ok hG hO hmix b _ s1 x (fun c hc => hl c (by simp [loopsOf, hc])) h1.len h1.le h2
      exact ⟨e2, s2, ⟨h3.len, h3.le, fun E hE Q a w hQ hi => wp_seq (h1.wp E hE _ a w (fun a w h => h3.wp E hE Q a w hQ h) hi)⟩, h4⟩
    | _ => exact ⟨_, s1, ⟨h1.len, h1.le, fun E hE Q a w hQ hi => wp_seq (h1.wp E hE _ a w (fun a w h => hQ a w h) hi)⟩, h2⟩
  | .cond c a b, K, s, x, hl, hn, hm, h => by
    simp only [evC] at h
    have ha : ∀ (h : (evC P O L pol n m a K s).run = some x), (∀ (w : World) (S : Nat → Prop) (μ : Mu) (v : Value), RepV w S μ (evO s.t c) v → v = .bool true) →
        ∃ e sN, CodeOK P G n m (.cond c a b) s e sN ∧ (K e sN).run = some x := by
      intro h hv
      obtain ⟨e, s1, h1, h2⟩ := evC_ok hG hO hmix a _ s x (fun c hc => hl c (by simp [loopsOf, hc])) hn hm h
      refine ⟨e, s1, ⟨h1.len, h1.le, fun E hE Q a w hQ hi => ?_⟩, h2⟩
      obtain ⟨S, μ, iv⟩ := hi
      exact wp_cond_true (hv w S μ _ (repV_evO iv.rep c)) (h1.wp E hE Q a w hQ ⟨S, μ, iv⟩)
    have hb : ∀ (h : (evC P O L pol n m b K s).run = some x), (∀ (w : World) (S : Nat → Prop) (μ : Mu) (v : Value), RepV w S μ (evO s.t c) v → v = .bool false) →
        ∃ e sN, CodeOK P G n m (.cond c a b) s e sN ∧ (K e sN).run = some x := by
      intro h hv
      obtain ⟨e, s1, h1, h2⟩ := evC_ok hG hO hmix b _ s x (fun c hc => hl c (by simp [loopsOf, hc])) hn hm h
      refine ⟨e, s1, ⟨h1.len, h1.le, fun E hE Q a w hQ hi => ?_⟩, h2⟩
      obtain ⟨S, μ, iv⟩ := hi
      exact wp_cond_false (hv w S μ _ (repV_evO iv.rep c)) (h1.wp E hE Q a w hQ ⟨S, μ, iv⟩)
    split at h
    · rename_i t hc
      simp only [Tr.run] at h
      cases t with
      | true => exact ha h fun w S μ v hr => by rw [hc] at hr; exact repV_b hr
      | false => exact hb h fun w S μ v hr => by rw [hc] at hr; exact repV_b hr
    · rename_i hc
      exact ha h fun w S μ v hr => by rw [hc] at hr; exact repV_bl hr
    · rename_i hc
      exact hb h fun w S μ v hr => by rw [hc] at hr; exact repV_bl hr
    · cases h
  | .block id a, K, s, x, hl, hn, hm, h => by
    simp only [evC] at h
    obtain ⟨e, s1, h1, h2⟩ := evC_ok hG hO hmix a _ s x (fun c hc => hl c (by simp [loopsOf, hc])) hn hm h
    cases e with
    | exit j =>
      simp only at h2
      split at h2
      · rename_i hj
        simp at hj
        exact ⟨.normal, s1, ⟨h1.len, h1.le, fun E hE Q a w hQ hi => wp_block (h1.wp E hE _ a w (fun a w h => by simp only [Exit.inBlock, hj, if_true]; exact hQ a w h) hi)⟩, h2⟩
      · rename_i hj
        simp at hj
        exact ⟨.exit j, s1, ⟨h1.len, h1.le, fun E hE Q a w hQ hi => wp_block (h1.wp E hE _ a w (fun a w h => by simp only [Exit.inBlock, hj, if_false]; exact hQ a w h) hi)⟩, h2⟩
    | _ => exact ⟨_, s1, ⟨h1.len, h1.le, fun E hE Q a w hQ hi => wp_block (h1.wp E hE _ a w (fun a w h => hQ a w h) hi)⟩, h2⟩
  | .loop a, K, s, x, hl, hn, hm, h => by
    simp only [evC] at h
    split at h
    case h_2 => cases h
    rename_i live sp hlive hsp
    split at h
    case h_2 => cases h
    rename_i ls hls
    obtain ⟨e, ls', h1, h2⟩ := hl a (by simp [loopsOf]) live sp hlive hsp ls _ x (save_len hls) h
    exact ⟨e, _, ⟨h1.len, h1.le, fun E hE Q a w hQ hi => h1.wp E hE Q a w hQ (save_ok (by rw [hE]; exact hls) hn hi)⟩, h2⟩
  | .rangeFunc .., _, _, _, _, _, _, h => by simp [evC, Tr.run] at h
  | .scope .., _, _, _, _, _, _, h => by simp [evC, Tr.run] at h
  | .goto .., _, _, _, _, _, _, h => by simp [evC, Tr.run] at h
  | .label .., _, _, _, _, _, _, h => by simp [evC, Tr.run] at h
  | .refuse .., _, _, _, _, _, _, h => by simp [evC, Tr.run] at h

/-! ### Loops -/
/-- What is said of one state follows from what is said of another. -/
def Ent (G : World → (Nat → Prop) → Prop) (n m : Nat) (live : List Nat) (ls ls' : LS) : Prop :=
  m ≤ ls'.h.length ∧ ∀ (E : Env), E.m = m → ∀ (a : Act) (w : World), SInv G E (loadS n live ls) a w → SInv G E (loadS n live ls') a w
theorem loadS_len {live : List Nat} {ls : LS} : (loadS n live ls).t.length = n := by simp [loadS, loadT_length]
theorem round_ok (hG : GOk G) (hO : OrcOK P G O) (hmix : P.follows .mixedOrders = true) {live : List Nat} {a : Code} {ls ls' : LS} {e : Exit} (hl : LpsOK P G pol n m L a) (hm : m ≤ ls.h.length)
    (h : (evRound P O L pol n m live a ls).run = some (.out e ls')) : CodeOK P G n m a (loadS n live ls) e (loadS n live ls') := by
  unfold evRound at h
  obtain ⟨e', s1, h1, h2⟩ := evC_ok hG hO hmix a _ _ _ hl loadS_len (by simpa [loadS] using hm) h
  split at h2
  case h_2 => cases h2
  rename_i ls1 hls
  simp [Tr.run] at h2
  obtain ⟨rfl, rfl⟩ := h2
  exact ⟨loadS_len, by simpa [loadS] using save_len hls, fun E hE Q a w hQ hi => h1.wp E hE Q a w (fun a w h => hQ a w (save_ok (by rw [hE]; exact hls) h1.len h)) hi⟩
/-- One round, with what follows from it. -/
def Rnd (P : Program) (G : World → (Nat → Prop) → Prop) (n m : Nat) (live : List Nat) (a : Code) (ls : LS) (e : Exit) (ls' : LS) : Prop := CodeOK P G n m a (loadS n live ls) e (loadS n live ls')
theorem Rnd.ent {live : List Nat} {a : Code} {ls ls1 ls' : LS} {e : Exit} (h : Rnd P G n m live a ls e ls1) (he : Ent G n m live ls1 ls') : Rnd P G n m live a ls e ls' :=
  ⟨loadS_len, by simpa [loadS] using he.1, fun E hE Q a w hQ hi => h.wp E hE Q a w (fun a w h => hQ a w (he.2 E hE a w h)) hi⟩
/-- A loop goes its rounds. -/
inductive Goes (R : LS → Exit → LS → Prop) : LS → Exit → LS → Prop
  | last (ls : LS) (e : Exit) (ls' : LS) (h : R ls e ls') (he : e ≠ .normal) : Goes R ls e ls'
  | more (ls ls1 : LS) (e : Exit) (ls' : LS) (h : R ls .normal ls1) (h' : Goes R ls1 e ls') : Goes R ls e ls'
theorem goes_ok {live : List Nat} {a : Code} {ls ls' : LS} {e : Exit} (h : Goes (Rnd P G n m live a) ls e ls') : CodeOK P G n m (.loop a) (loadS n live ls) e (loadS n live ls') := by
  have key : ∀ (E : Env), E.m = m → ∀ (Q : Exit → Act → World → Prop) (act : Act) (w : World), (∀ a w, SInv G E (loadS n live ls') a w → Q e a w) → SInv G E (loadS n live ls) act w →
      ∀ (b : Frame) (k : List Item) (cs : List Frame), ∃ e a' w', Q e a' w' ∧ Arrives P (lone (b.at act (.code a :: .inLoop a :: k)) cs w) b k cs e a' w' := by
    induction h with
    | last ls e ls' h he =>
      intro E hE Q act w hQ hi b k cs
      obtain ⟨e1, a1, w1, hq, harr⟩ := h.wp E hE (fun e1 a w => e1 = e ∧ Q e a w) act w (fun a w h => ⟨rfl, hQ a w h⟩) hi b (.inLoop a :: k) cs
      obtain ⟨rfl, hq⟩ := hq
      exact ⟨e1, a1, w1, hq, .pass (x := .inLoop a) rfl (fun _ _ => .inl he) harr⟩
    | more ls ls1 e ls' h _ ih =>
      intro E hE Q act w hQ hi b k cs
      obtain ⟨e1, a1, w1, hq, harr⟩ := h.wp E hE (fun e1 a w => e1 = .normal ∧ SInv G E (loadS n live ls1) a w) act w (fun a w h => ⟨rfl, h⟩) hi b (.inLoop a :: k) cs
      obtain ⟨rfl, hq⟩ := hq
      obtain ⟨e2, a2, w2, hq2, harr2⟩ := ih E hE Q a1 w1 hQ hq b k cs
      exact ⟨e2, a2, w2, hq2, .of_steps (Steps.trans harr (.one step_inLoop)) harr2⟩
  have hm : m ≤ ls'.h.length := by
    clear key
    induction h with
    | last ls e ls' h he => simpa [loadS] using h.le
    | more ls ls1 e ls' h _ ih => exact ih
  exact ⟨loadS_len, by simpa [loadS] using hm, fun E hE Q act w hQ hi b k cs => by
    obtain ⟨e, a', w', hq, harr⟩ := key E hE Q act w hQ hi b k cs
    exact ⟨e, a', w', hq, .of_steps (.one step_loop) harr⟩⟩
end
end Go.Proofs.YtejfdhcigkgbmaaDoor.PE
/-! The end of a function. -/
namespace Go.Proofs.YtejfdhcigkgbmaaDoor.PE
open Go

section
variable {P : Program} {w : World} {S S2 : Nat → Prop} {μ : Mu} {h : Heap}
theorem ldO_load {T : Nat} {pv v : PV} {x : Value} (hld : holds (ldC h pv)) (hv : ldO P T h pv = some v) (h1 : RepV w S μ pv x) (hh : HRel w S μ (hget h)) :
    ∃ y, (Instr.loadAt T x).run P w = .ok y w ∧ RepV w S μ v y := by
  unfold ldO at hv
  split at hv
  · rename_i u
    split at hv
    · rename_i hf
      simp at hv; subst hv
      obtain ⟨a', o', cs, hS, hrep, hc, hxv⟩ := repV_ref h1
      obtain ⟨y, hy, hry⟩ := run_load_rep hf (hrep.mono (w' := w) (S' := S) ⟨fun _ h => h, fun _ _ _ => rfl⟩ μ (MuLe.none μ)) hc
      exact ⟨y, by rw [hxv]; exact hy, hry⟩
    · cases hv
  · rename_i b e' i off p
    obtain ⟨a', z, hmu, hxv⟩ := repV_ptr h1
    split at hv
    · rename_i k hk
      split at hv
      · rename_i hck
        simp only [Bool.and_eq_true, beq_iff_eq] at hck
        obtain ⟨hke, hik0⟩ := hck
        simp only [ldC, hk] at hld
        have hik : i < k.c.len := lenOk_le hik0 hld
        split at hv
        · rename_i o1 u hsub
          split at hv
          · rename_i hof
            simp only [Bool.and_eq_true, beq_iff_eq] at hof
            obtain ⟨rfl, hf⟩ := hof
            simp at hv; subst hv
            obtain ⟨a2, z2, hmu2, c, T', cs, hg, hz, hle, hrr, hl, hc⟩ := hh.blk b k hk
            have e1 := hmu.symm.trans hmu2; cases e1
            obtain ⟨c1, c2, c3, hcs, hlen, hru⟩ := sub_rep p (k.c.get i) o1 u (cs i) hsub ((hrr i hik).mono (w' := w) (S' := S) ⟨fun _ h => h, fun _ _ _ => rfl⟩ μ (rowMu_sub μ _))
            obtain ⟨y, hy, hry⟩ := run_load_rep (a := a') (o := i * e' + o1) hf hru (fun j hj => by
              have hlt : o1 + j < k.e := by rw [← hl i hik, hcs]; simp; omega
              have hcc := hc i (o1 + j) hik hlt
              rw [cell_of_row w a' _ c T' _ hg, ← hke, show i * k.e + o1 + j = i * k.e + (o1 + j) by omega, hcc, hcs]
              rw [List.append_assoc, List.getElem?_append_right (by omega), hlen, Nat.add_sub_cancel_left, List.getElem?_append_left hj])
            exact ⟨y, by rw [hxv]; exact hy, hry⟩
          · cases hv
        · cases hv
      · cases hv
    · cases hv
  · cases hv
theorem ldO_addr {T : Nat} {pv v : PV} {x : Value} (hv : ldO P T h pv = some v) (h1 : RepV w S μ pv x) : ∃ a, x = .pointer (some a) := by
  unfold ldO at hv
  split at hv
  · obtain ⟨a', o', cs, hS, hrep, hc, hxv⟩ := repV_ref h1; exact ⟨_, hxv⟩
  · obtain ⟨a', z, hmu, hxv⟩ := repV_ptr h1; exact ⟨_, hxv⟩
  · cases hv
def resRun (tmps : Array Value) : ResultVar → Sem Value
  | .tmp t => pure (tmps.getD t undef)
  | .cell a t => do loadVar t (← asAddr (tmps.getD a undef))
theorem resV_ok {s : St} {rv : ResultVar} {v : PV} (hv : resV P s rv = some v) {tmps : Array Value} (hr : ∀ k, RepV w S μ (s.t.getD k .any) (tmps.getD k undef)) (hh : HRel w S μ (hget s.h)) :
    ∃ y, (resRun tmps rv).run P w = .ok y w ∧ RepV w S μ v y := by
  cases rv with
  | tmp k =>
    simp only [resV] at hv
    cases hv
    exact ⟨_, rfl, hr k⟩
  | cell a T =>
    simp only [resV] at hv
    split at hv
    case h_2 => cases hv
    rename_i hld
    obtain ⟨y, h1, h2⟩ := ldO_load (by rw [hld]; trivial) hv (hr a) hh
    obtain ⟨ad, had⟩ := ldO_addr hv (hr a)
    refine ⟨y, ?_, h2⟩
    rw [had] at h1
    simpa [resRun, had, asAddr, Instr.loadAt, Instr.sureAddr] using h1
theorem resL_ok {s : St} {tmps : Array Value} (hr : ∀ k, RepV w S μ (s.t.getD k .any) (tmps.getD k undef)) (hh : HRel w S μ (hget s.h)) : ∀ (rvs : List ResultVar) (vs : List PV), resL P s rvs = some vs →
    ∃ ys, (rvs.mapM (resRun tmps)).run P w = .ok ys w ∧ RepVL w S μ vs ys
  | [], vs, hv => by simp [resL] at hv; subst hv; exact ⟨[], rfl, .nil _⟩
  | r :: rs, vs, hv => by
    simp only [resL] at hv
    split at hv
    case h_2 => cases hv
    rename_i v h1
    split at hv
    case h_2 => cases hv
    rename_i us h2
    simp at hv; subst hv
    obtain ⟨y, h3, h4⟩ := resV_ok h1 hr hh
    obtain ⟨ys, h5, h6⟩ := resL_ok hr hh rs us h2
    exact ⟨y :: ys, by simp [h3, h5], .cons _ _ _ _ _ h4 h6⟩
theorem results_run {fn : Func} {tmps : Array Value} {ys : List Value} (h : (fn.results.toList.mapM (resRun tmps)).run P w = .ok ys w) :
    (results fn tmps).run P w = .ok (if h : ys.length = 1 then ys[0] else .tuple ys.toArray) w := by
  have h1 : fn.results.mapM (resRun tmps) = List.toArray <$> fn.results.toList.mapM (resRun tmps) := by
    rw [← List.mapM_toArray]
  have h2 : results fn tmps = (do let vs ← fn.results.mapM (resRun tmps); pure (if h : vs.size = 1 then vs[0] else .tuple vs)) := by
    unfold results
    congr 2
  rw [h2, h1]
  simp only [Sem.run_bind, Sem.run_map, h, Result.andThen]
  rfl

/-- The content that is handed over. -/
theorem frzC_rep (hS : ∀ n, S n → S2 n) (hh : HRel w S μ (hget h)) {d : Nat} {c c' : Cont} {off len : Nat} (hle : off + len ≤ c.len) {ks : Nat → List Value} (hkr : ∀ i, i < c.len → RepC w S (rowMu μ c) (c.get i) (ks i))
    (hok : holds (frzCO (frzOk h d) (c.cut off len))) (hrch : Reach μ h S2 (deepC h d (c.cut off len))) (hc' : frzC (frz h d) (c.cut off len) = some c') : c'.len = len ∧ ∀ i, i < len → RepC w S2 noMu (c'.get i) (ks (off + i)) := by
  have hm : Mono w w S S2 := ⟨hS, fun _ _ _ => rfl⟩
  have hcl := Cont.len_cut c off len hle
  unfold frzC at hc'
  split at hc'
  · rename_i vs hvs
    split at hc'
    case h_2 => cases hc'
    rename_i ws hws
    simp at hc'; subst hc'
    rw [hvs] at hrch hok
    obtain ⟨hl2, hg2⟩ := mapO_get vs ws hws
    have hvl : vs.length = len := by rw [← hcl, hvs]; rfl
    refine ⟨by simp [Cont.len, hl2, hvl], fun i hi => ?_⟩
    have hvi : vs[i]? = some (vs[i]'(by omega)) := List.getElem?_eq_getElem _
    obtain ⟨v2, hv2, hf2⟩ := hg2 i _ hvi
    have hki := hkr (off + i) (by omega)
    have hrow : rowMu μ c = μ := by
      have : rowMu μ (c.cut off len) = μ := by rw [hvs]; rfl
      rwa [rowMu_cut] at this
    rw [hrow, ← Cont.get_cut c off len i hi, hvs] at hki
    simp only [Cont.get, List.getD_eq_getElem?_getD, hvi, Option.getD_some] at hki
    have := (frz_rep hS hh d _ v2 (holds_foldO hok _ (List.getElem_mem _)) (hrch.sub (fun q hq => List.mem_flatMap.2 ⟨_, List.getElem_mem _, hq⟩)) hf2).1 _ hki
    simpa [Cont.get, List.getD_eq_getElem?_getD, hv2] using this
  · rename_i c2 hcne
    simp at hc'
    subst hc'
    refine ⟨hcl, fun i hi => ?_⟩
    have hki := hkr (off + i) (by omega)
    have hrow : rowMu μ c = noMu := by
      rw [← rowMu_cut μ c off len]
      cases hcc : c.cut off len <;> first | rfl | exact absurd hcc (hcne _)
    rw [hrow, ← Cont.get_cut c off len i hi] at hki
    exact hki.mono hm _ (MuLe.refl _)

def noAgg : PV → Bool
  | .agg _ => false
  | _ => true
theorem frz_noAgg {d : Nat} {v v' : PV} (h1 : frz h d v = some v') (h2 : noAgg v = true) : noAgg v' = true ∧ ∀ e c, v' ≠ .fr e c := by
  cases d with
  | zero => simp [frz] at h1
  | succ d =>
    cases v <;> simp only [frz] at h1
    case agg => cases h2
    all_goals (repeat' split at h1)
    all_goals first | (cases h1; done) | (simp at h1; subst h1; exact ⟨rfl, fun _ _ h => by cases h⟩)
theorem frz_noFr {d : Nat} {v v' : PV} (h1 : frz h d v = some v') : ∀ e c, v' ≠ .fr e c := by
  cases d with
  | zero => simp [frz] at h1
  | succ d =>
    cases v <;> simp only [frz] at h1
    all_goals (repeat' split at h1)
    all_goals first | (cases h1; done) | (simp at h1; subst h1; exact fun _ _ h => by cases h)
theorem unfr1_id {m : Nat} {v : PV} {nbs : List Blk} (h : ∀ e c, v ≠ .fr e c) : unfr1 m v nbs = (v, nbs) := by
  cases v <;> first | rfl | exact absurd rfl (h _ _)

/-- Blocks that are handed over. -/
def Given (w : World) (S2 : Nat → Prop) (μ : Mu) (h : Heap) (m : Nat) (gv : List Nat) (ks : List Blk) : Prop :=
  ks.length = gv.length ∧ ∀ (j : Nat) (k : Blk) (b : Nat), ks[j]? = some k → gv[j]? = some b → m ≤ b ∧ (∃ k0, hget h b = some k0) ∧ ∃ a z, μ b = some (a, z) ∧ BlkRel w S2 noMu k a z
theorem Given.nil {m : Nat} : Given w S2 μ h m [] [] := ⟨rfl, fun j k b h => by simp at h⟩
theorem Given.append {m : Nat} {g1 g2 : List Nat} {k1 k2 : List Blk} (h1 : Given w S2 μ h m g1 k1) (h2 : Given w S2 μ h m g2 k2) : Given w S2 μ h m (g1 ++ g2) (k1 ++ k2) := by
  refine ⟨by simp [h1.1, h2.1], fun j k b hk hb => ?_⟩
  by_cases hj : j < k1.length
  · rw [List.getElem?_append_left hj] at hk
    rw [List.getElem?_append_left (by rw [← h1.1]; exact hj)] at hb
    exact h1.2 j k b hk hb
  · rw [List.getElem?_append_right (by omega)] at hk
    rw [List.getElem?_append_right (by rw [← h1.1]; omega), ← h1.1] at hb
    exact h2.2 _ k b hk hb
/-- What leaves, in the caller's numbers. -/
structure OutOK (w : World) (S S2 : Nat → Prop) (μ μ' : Mu) (h : Heap) (m : Nat) (v u : PV) (gv : List Nat) (ks : List Blk) : Prop where
  agg : isAgg u = isAgg v
  rc : ∀ cs, RepC w S μ v cs → RepC w S2 μ' u cs
  rv : ∀ x, RepV w S μ v x → RepV w S2 μ' u x
  giv : Given w S2 μ h m gv ks

theorem view_ok (hS : ∀ n, S n → S2 n) (hh : HRel w S μ (hget h)) {m d : Nat} {v : PV} {o : Out} (ho : viewO h d v = some o) (hok : holds o.ok) (hr : Reach μ h S2 o.vw) {μ' : Mu} (nbs : List Blk) :
    ∃ u ks, unfr1 m o.v nbs = (u, nbs ++ ks) ∧ OutOK w S S2 μ μ' h m v u o.gv ks := by
  unfold viewO at ho
  split at ho
  case h_2 => cases ho
  rename_i v' hv'
  simp at ho; subst ho
  refine ⟨v', [], by simp [unfr1_id (frz_noFr hv')], ?_, fun cs hc => ?_, fun x hx => ?_, .nil⟩
  · cases d with
    | zero => simp [frz] at hv'
    | succ d =>
      cases v <;> simp only [frz] at hv'
      all_goals (repeat' split at hv')
      all_goals first | (cases hv'; done) | (simp at hv'; subst hv'; rfl)
  · exact ((frz_rep hS hh d v v' hok hr hv').1 cs hc).mono ⟨fun _ h => h, fun _ _ _ => rfl⟩ _ (MuLe.none _)
  · exact ((frz_rep hS hh d v v' hok hr hv').2 x hx).mono ⟨fun _ h => h, fun _ _ _ => rfl⟩ (MuLe.none _)
theorem fresh1_ok (hS : ∀ n, S n → S2 n) (hh : HRel w S μ (hget h)) {m d : Nat} {v : PV} {o : Out} (ho : fresh1 m h d v = some o) (hok : holds o.ok) (hr : Reach μ h S2 o.vw) {μ' : Mu} (hμ : ∀ b, b < m → μ' b = μ b)
    (nbs : List Blk) (hg : ∀ (j b : Nat), o.gv[j]? = some b → μ' (m + nbs.length + j) = μ b) :
    ∃ u ks, unfr1 m o.v nbs = (u, nbs ++ ks) ∧ OutOK w S S2 μ μ' h m v u o.gv ks := by
  unfold fresh1 at ho
  split at ho
  · rename_i b e off len
    split at ho
    · rename_i hb
      simp at ho hb; subst ho
      refine ⟨.sl b e off len, [], by simp [unfr1], rfl, fun cs hc => ?_, fun x hx => ?_, .nil⟩
      · cases hc with | sl => exact .sl _ _ _ _ _ _ _ _ _ ((hμ b hb).trans (by assumption)) (by assumption) (by assumption) (by assumption)
      · cases hx with
        | agg _ _ _ hv => cases hv
        | cell _ _ _ _ hc => cases hc with | sl => exact .cell _ _ _ rfl (.sl _ _ _ _ _ _ _ _ _ ((hμ b hb).trans (by assumption)) (by assumption) (by assumption) (by assumption))
    · rename_i hb
      have hb' : m ≤ b := by
        rcases Nat.lt_or_ge b m with h | h
        · rw [(by simpa using h : Nat.blt b m = true)] at hb; cases hb
        · exact h
      split at ho
      · rename_i k hk
        split at ho
        case h_2 => cases ho
        rename_i hck
        simp only [Bool.and_eq_true, beq_iff_eq] at hck
        split at ho
        case h_2 => cases ho
        rename_i c hc
        simp at ho; subst ho
        obtain ⟨hok1, hok2⟩ := holds_oand hok
        have hck := And.intro hck.1 (lenOk_le hck.2 hok1)
        obtain ⟨a, z, hmu, cur, T', ks, hg1, hzz, hlez, hkr, hkl, hkc⟩ := hh.blk b k hk
        obtain ⟨hcl, hcr⟩ := frzC_rep hS hh (off := 0) (by omega) hkr hok2 hr hc
        have hmu' : μ' (m + nbs.length) = μ b := by
          have := hg 0 b rfl
          simpa using this
        have hsl : ∀ cs, RepC w S μ (.sl b e 0 len) cs → RepC w S2 μ' (.sl (m + nbs.length) e 0 c.len) cs := by
          intro cs hcs
          rw [hcl]
          cases hcs with | sl => exact .sl _ _ _ _ _ _ _ _ _ (hmu'.trans (by assumption)) (by assumption) (by assumption) (by assumption)
        refine ⟨.sl (m + nbs.length) e 0 c.len, [⟨e, c⟩], rfl, rfl, hsl, fun x hx => ?_, rfl, fun j k' b' hj hj' => ?_⟩
        · cases hx with
          | agg _ _ _ hv => cases hv
          | cell _ _ _ _ hc => exact .cell _ _ _ rfl (hsl _ hc)
        · cases j with
          | succ j => simp at hj
          | zero =>
            simp at hj hj'; subst hj; subst hj'
            refine ⟨hb', ⟨k, hk⟩, a, z, hmu, cur, T', ks, hg1, hzz, ?_, fun i hi => ?_, fun i hi => ?_, fun i j hi hj => ?_⟩
            · simp only
              rw [hcl, ← hck.1]
              exact Nat.le_trans (Nat.mul_le_mul_right _ hck.2) hlez
            · simp only at hi ⊢
              have hrow : rowMu noMu c = noMu := by cases c <;> rfl
              rw [hrow]
              have := hcr i (by omega)
              rwa [Nat.zero_add] at this
            · simp only at hi ⊢
              rw [← hck.1]; exact hkl i (by omega)
            · simp only at hi hj ⊢
              rw [← hck.1] at hj ⊢; exact hkc i j (by omega) hj
      · exact view_ok hS hh ho hok hr nbs
  · rename_i b e i off p
    split at ho
    · rename_i hb
      simp at ho hb; subst ho
      refine ⟨.ptr b e i off p, [], by simp [unfr1], rfl, fun cs hc => ?_, fun x hx => ?_, .nil⟩
      · cases hc with | ptr => exact .ptr _ _ _ _ _ _ _ _ ((hμ b hb).trans (by assumption))
      · cases hx with
        | agg _ _ _ hv => cases hv
        | cell _ _ _ _ hc => cases hc with | ptr => exact .cell _ _ _ rfl (.ptr _ _ _ _ _ _ _ _ ((hμ b hb).trans (by assumption)))
    · exact view_ok hS hh ho hok hr nbs
  · exact view_ok hS hh ho hok hr nbs
theorem fresh1_noAgg {m d : Nat} {v : PV} {o : Out} (ho : fresh1 m h d v = some o) (hv : noAgg v = true) : noAgg o.v = true := by
  unfold fresh1 viewO at ho
  repeat' split at ho
  all_goals first | (cases ho; done) | (simp at ho; subst ho; rfl) | skip
  all_goals
    rename_i h1
    simp at ho; subst ho
    exact (frz_noAgg h1 hv).1

theorem freshL_ok (hS : ∀ n, S n → S2 n) (hh : HRel w S μ (hget h)) {m d : Nat} {μ' : Mu} (hμ : ∀ b, b < m → μ' b = μ b) : ∀ (vs : List PV) (p : Outs), freshL m h d vs = some p → holds p.ok → Reach μ h S2 p.vw →
    ∀ (nbs : List Blk), (∀ (j b : Nat), p.gv[j]? = some b → μ' (m + nbs.length + j) = μ b) →
    ∃ us ks, unfrL m p.v nbs = (us, nbs ++ ks) ∧ Given w S2 μ h m p.gv ks ∧ (∀ cs, RepL w S μ vs cs → RepL w S2 μ' us cs)
  | [], p, ho, hok, hr, nbs, hg => by
    simp [freshL] at ho; subst ho
    exact ⟨[], [], by simp [unfrL], .nil, fun cs hc => by cases hc; exact .nil _⟩
  | v :: vs, p, ho, hok, hr, nbs, hg => by
    simp only [freshL] at ho
    split at ho
    case h_2 => cases ho
    rename_i o ho1
    split at ho
    case h_2 => cases ho
    rename_i p2 ho2
    simp at ho; subst ho
    obtain ⟨hok1, hok2⟩ := holds_oand hok
    obtain ⟨u, ks, h1, h2⟩ := fresh1_ok hS hh ho1 hok1 (hr.sub fun b hb => List.mem_append.2 (.inl hb)) hμ nbs
      (fun j b hj => hg j b (by rw [List.getElem?_append_left (List.getElem?_eq_some_iff.1 hj).1]; exact hj))
    obtain ⟨us, ks2, h3, h4, h5⟩ := freshL_ok hS hh hμ vs p2 ho2 hok2 (hr.sub fun b hb => List.mem_append.2 (.inr hb)) (nbs ++ ks)
      (fun j b hj => by
        have := hg (o.gv.length + j) b (by rw [List.getElem?_append_right (by omega), Nat.add_sub_cancel_left]; exact hj)
        rw [List.length_append, h2.giv.1]
        rwa [show m + nbs.length + (o.gv.length + j) = m + (nbs.length + o.gv.length) + j by omega] at this)
    refine ⟨u :: us, ks ++ ks2, by simp [unfrL, h1, h3], h2.giv.append h4, fun cs hc => ?_⟩
    cases hc with | cons _ _ _ c1 c2 g1 g2 => exact .cons _ _ _ _ _ (h2.rc _ g1) (h5 _ g2)
theorem freshA_ok (hS : ∀ n, S n → S2 n) (hh : HRel w S μ (hget h)) {m : Nat} {v : PV} {o : Out} (ho : freshA m h v = some o) (hok : holds o.ok) (hr : Reach μ h S2 o.vw) {μ' : Mu} (hμ : ∀ b, b < m → μ' b = μ b)
    (nbs : List Blk) (hg : ∀ (j b : Nat), o.gv[j]? = some b → μ' (m + nbs.length + j) = μ b) :
    ∃ u ks, unfrA m o.v nbs = (u, nbs ++ ks) ∧ Given w S2 μ h m o.gv ks ∧ ∀ x, RepV w S μ v x → RepV w S2 μ' u x := by
  unfold freshA at ho
  split at ho
  · rename_i vs
    split at ho
    case h_2 => cases ho
    rename_i p hL
    simp at ho; subst ho
    obtain ⟨us, ks, h1, h2, h3⟩ := freshL_ok hS hh hμ vs p hL hok hr nbs hg
    refine ⟨.agg us, ks, by simp [unfrA, h1], h2, fun x hx => ?_⟩
    cases hx with
    | agg _ _ cs _ hc => cases hc with | agg _ _ _ hc => exact .agg _ _ _ rfl (.agg _ _ _ (h3 _ hc))
    | cell _ _ _ hv => cases hv
  · rename_i hne
    obtain ⟨u, ks, h1, h2⟩ := fresh1_ok hS hh ho hok hr hμ nbs hg
    have hna : noAgg o.v = true := fresh1_noAgg ho (by cases v <;> first | rfl | exact absurd rfl (hne _))
    have : unfrA m o.v nbs = unfr1 m o.v nbs := by
      generalize o.v = z at hna
      cases z <;> first | rfl | cases hna
    exact ⟨u, ks, by rw [this]; exact h1, h2.giv, h2.rv⟩
theorem freshT_ok (hS : ∀ n, S n → S2 n) (hh : HRel w S μ (hget h)) {m : Nat} {μ' : Mu} (hμ : ∀ b, b < m → μ' b = μ b) : ∀ (vs : List PV) (p : Outs), freshT m h vs = some p → holds p.ok → Reach μ h S2 p.vw →
    ∀ (nbs : List Blk), (∀ (j b : Nat), p.gv[j]? = some b → μ' (m + nbs.length + j) = μ b) →
    ∃ us ks, unfrT m p.v nbs = (us, nbs ++ ks) ∧ Given w S2 μ h m p.gv ks ∧ (∀ cs, RepVL w S μ vs cs → RepVL w S2 μ' us cs) ∧ p.v.length = vs.length ∧ us.length = vs.length
  | [], p, ho, hok, hr, nbs, hg => by
    simp [freshT] at ho; subst ho
    exact ⟨[], [], by simp [unfrT], .nil, fun cs hc => by cases hc; exact .nil _, rfl, rfl⟩
  | v :: vs, p, ho, hok, hr, nbs, hg => by
    simp only [freshT] at ho
    split at ho
    case h_2 => cases ho
    rename_i o ho1
    split at ho
    case h_2 => cases ho
    rename_i p2 ho2
    simp at ho; subst ho
    obtain ⟨hok1, hok2⟩ := holds_oand hok
    obtain ⟨u, ks, h1, h2, h2'⟩ := freshA_ok hS hh ho1 hok1 (hr.sub fun b hb => List.mem_append.2 (.inl hb)) hμ nbs
      (fun j b hj => hg j b (by rw [List.getElem?_append_left (List.getElem?_eq_some_iff.1 hj).1]; exact hj))
    obtain ⟨us, ks2, h3, h4, h5, h6, h7⟩ := freshT_ok hS hh hμ vs p2 ho2 hok2 (hr.sub fun b hb => List.mem_append.2 (.inr hb)) (nbs ++ ks)
      (fun j b hj => by
        have := hg (o.gv.length + j) b (by rw [List.getElem?_append_right (by omega), Nat.add_sub_cancel_left]; exact hj)
        rw [List.length_append, h2.1]
        rwa [show m + nbs.length + (o.gv.length + j) = m + (nbs.length + o.gv.length) + j by omega] at this)
    refine ⟨u :: us, ks ++ ks2, by simp [unfrT, h1, h3], h2.append h4, fun cs hc => ?_, by simp [h6], by simp [h7]⟩
    cases hc with | cons _ _ _ c1 c2 g1 g2 => exact .cons _ _ _ _ _ (h2' _ g1) (h5 _ g2)
theorem foldO_none {g : PV → Option Bool} : ∀ (vs : List PV), (∀ v ∈ vs, g v = none) → foldO g vs = none
  | [], _ => rfl
  | v :: vs, h => by
    simp only [foldO]
    rw [h v (by simp), foldO_none vs fun u hu => h u (by simp [hu])]
    rfl
theorem frzOk_nil : ∀ (d : Nat) (v : PV), frzOk [] d v = none
  | 0, _ => rfl
  | d + 1, v => by
    cases v <;> simp only [frzOk] <;> first | rfl | exact foldO_none _ fun u _ => frzOk_nil d u | exact frzOk_nil d _
theorem firstM_ok (hh : HRel w S μ (hget h)) : ∀ (m : Nat) (hs : List Blk), firstM h m = some hs → hs.length = m ∧ (∀ b, b < m → ∃ k, hget h b = some k) ∧ ∀ (j : Nat) (k : Blk), hs[j]? = some k → ∃ a z, μ j = some (a, z) ∧ BlkRel w S noMu k a z
  | 0, hs, ho => by simp [firstM] at ho; subst ho; exact ⟨rfl, fun b h => by omega, fun j k h => by simp at h⟩
  | m + 1, hs, ho => by
    simp only [firstM] at ho
    split at ho
    case h_2 => cases ho
    rename_i l k hl hk
    split at ho
    case h_2 => cases ho
    rename_i c hc
    simp at ho; subst ho
    obtain ⟨h1, h2, h3⟩ := firstM_ok hh m l hl
    refine ⟨by simp [h1], fun b hb => ?_, fun j k' hj => ?_⟩
    · by_cases hbm : b < m
      · exact h2 b hbm
      · have : b = m := by omega
        subst this; exact ⟨k, hk⟩
    · by_cases hjm : j < l.length
      · rw [List.getElem?_append_left hjm] at hj
        exact h3 j k' hj
      · rw [List.getElem?_append_right (by omega)] at hj
        have hj0 : j - l.length = 0 := by
          have := (List.getElem?_eq_some_iff.1 hj).1
          simpa using this
        rw [hj0] at hj
        simp at hj; subst hj
        have hjm' : j = m := by omega
        subst hjm'
        obtain ⟨a, z, hmu, cur, T', ks, hg1, hzz, hlez, hkr, hkl, hkc⟩ := hh.blk j k hk
        have hcut : frzC (frz [] 6) (k.c.cut 0 k.c.len) = some c ∨ True := .inr trivial
        have hH0 : HRel w S μ (hget []) := ⟨fun b k hb => by simp [hget] at hb, fun b k a z hb => by simp [hget] at hb, fun b b' k k' a z z' hb => by simp [hget] at hb, hh.lt⟩
        have hno : ∀ l, Reach μ [] S l := fun l b _ k a z hk => by simp [hget] at hk
        have key : c.len = k.c.len ∧ ∀ i, i < k.c.len → RepC w S noMu (c.get i) (ks i) := by
          unfold frzC at hc
          split at hc
          · rename_i vs hvs
            split at hc
            case h_2 => cases hc
            rename_i ws hws
            simp at hc; subst hc
            obtain ⟨hl2, hg2⟩ := mapO_get vs ws hws
            refine ⟨by rw [hvs]; simp [Cont.len, hl2], fun i hi => ?_⟩
            have hki := hkr i hi
            rw [hvs] at hki hi
            have hvi : vs[i]? = some (vs[i]'hi) := List.getElem?_eq_getElem _
            obtain ⟨v2, hv2, hf2⟩ := hg2 i _ hvi
            simp only [Cont.get, rowMu, List.getD_eq_getElem?_getD, hvi, Option.getD_some] at hki
            have := (frz_rep (fun _ h => h) hH0 6 _ v2 (by rw [frzOk_nil]; trivial) (hno _) hf2).1 _ hki
            simpa [Cont.get, List.getD_eq_getElem?_getD, hv2] using this
          · rename_i c2 hcne
            simp at hc
            subst hc
            refine ⟨rfl, fun i hi => ?_⟩
            have hrow : rowMu μ k.c = noMu := by
              cases hcc : k.c <;> first | rfl | exact absurd hcc (hcne _)
            have := hkr i hi
            rwa [hrow] at this
        refine ⟨a, z, hmu, cur, T', ks, hg1, hzz, by simpa [key.1] using hlez, fun i hi => ?_, by simpa [key.1] using hkl, by simpa [key.1] using hkc⟩
        have hrow : rowMu noMu c = noMu := by cases c <;> rfl
        simp only at hi ⊢
        rw [hrow]
        exact key.2 i (by rw [← key.1]; exact hi)
end
end Go.Proofs.YtejfdhcigkgbmaaDoor.PE
namespace Go.Proofs.YtejfdhcigkgbmaaDoor.PE
open Go

theorem nodupB_spec : ∀ {l : List Nat}, nodupB l = true → l.Nodup
  | [], _ => .nil
  | b :: r, h => by
    simp only [nodupB, Bool.and_eq_true] at h
    exact List.nodup_cons.2 ⟨by simpa using h.1, nodupB_spec h.2⟩
section
variable {P : Program} {G : World → (Nat → Prop) → Prop} {O : Orc} {L : Lps} {pol : Pol}
theorem endF_ok {fn : Func} {m : Nat} {K : PV → List Blk → Tr} {s : St} {x : Res} (h : (endF P fn m K s).run = some x) :
    ∃ r hs', (K r hs').run = some x ∧ ∀ (E : Env), E.m = m → ∀ a w, SInv G E s a w → a.defers = [] ∧ ∃ v, (results fn a.tmps).run P w = .ok v w ∧
      ∃ S' μ', CPost E.w0 w E.S0 S' E.μ0 μ' m (unfr m r).1 hs' (unfr m r).2 v := by
  unfold endF at h
  split at h
  case h_2 => cases h
  rename_i vs hs hvs hhs
  split at h
  case h_2 => cases h
  rename_i p hfr
  split at h
  case h_2 => cases h
  rename_i hok
  obtain ⟨hpok, h⟩ := brO_run h
  obtain ⟨rs, vw, gv, pok⟩ := p
  simp only at hok h hpok
  simp only [Bool.and_eq_true, endOk] at hok
  obtain ⟨⟨⟨hok1, hok2⟩, hok3⟩, hone⟩ := hok
  refine ⟨one rs, hs, h, fun E hE a w hi => ?_⟩
  obtain ⟨S, μ, iv⟩ := hi
  refine ⟨iv.defers, ?_⟩
  obtain ⟨ys, hys, hrep⟩ := resL_ok (P := P) iv.rep iv.hrel _ _ hvs
  refine ⟨_, results_run hys, ?_⟩
  obtain ⟨hlen, hlive, hwr⟩ := firstM_ok iv.hrel m hs hhs
  let S2 : Nat → Prop := fun n => S n ∨ ∃ b ∈ vw, ∃ k z, hget s.h b = some k ∧ μ b = some (n, z)
  let μ2 : Mu := muOf μ (upto 0 m ++ gv)
  have hμ : ∀ b, b < m → μ2 b = μ b := by
    intro b hb
    simp only [μ2, muOf]
    rw [List.getElem?_append_left (by rw [upto_length]; exact hb), upto_get _ _ _ hb, Nat.zero_add]
  have hμ2 : ∀ (j b : Nat), gv[j]? = some b → μ2 (m + j) = μ b := by
    intro j b hj
    simp only [μ2, muOf]
    rw [List.getElem?_append_right (by rw [upto_length]; omega), upto_length, Nat.add_sub_cancel_left, hj]
  obtain ⟨us, ks, h1, h2, h3, h4, h5⟩ := freshT_ok (S2 := S2) (μ' := μ2) (fun n hn => .inl hn) iv.hrel hμ vs ⟨rs, vw, gv, pok⟩ hfr hpok (fun b hb k a z hk hmu => .inr ⟨b, hb, k, z, hk, hmu⟩) [] (fun j b hj => by simpa using hμ2 j b hj)
  rw [List.nil_append] at h1
  simp only at h1 h2 h4
  have hrep2 := h3 _ hrep
  -- what is not from before
  have place : ∀ b k a z, hget s.h b = some k → μ b = some (a, z) → m ≤ b → E.w0.heap.size ≤ a := by
    intro b k a z hk hmu hb
    rcases iv.link.place b k a z hk hmu with h | ⟨b0, z', h6, h7⟩
    · exact h
    · rw [hE] at h6
      obtain ⟨k0, hk0⟩ := hlive b0 h6
      have := iv.link.mu b0 (by rw [hE]; exact h6)
      rw [h7] at this
      have := iv.hrel.inj b b0 k k0 a z z' hk hk0 hmu this
      omega
  have vwm : ∀ b ∈ vw, m ≤ b := fun b hb => by simpa using List.all_eq_true.1 hok1 b hb
  have new : ∀ n, S2 n → E.S0 n ∨ (E.w0.heap.size ≤ n ∧ n < w.heap.size) := by
    intro n hn
    rcases hn with hn | ⟨b, hb, k, z, hk, hmu⟩
    · rcases iv.link.newS n hn with h | h
      · exact .inl h
      · exact .inr ⟨h, iv.hrel.lt n hn⟩
    · obtain ⟨a, z', h6, h7⟩ := iv.hrel.blk b k hk
      have := hmu.symm.trans h6; cases this
      exact .inr ⟨place b k _ _ hk hmu (vwm b hb), h7.lt⟩
  have hm12 : Mono w w S S2 := ⟨fun n hn => .inl hn, fun _ _ _ => rfl⟩
  have common : ∀ r v, RepV w S2 μ2 r v → CPost E.w0 w E.S0 S2 E.μ0 μ2 m r hs ks v := by
    intro r v hr
    refine ⟨iv.link.os, iv.link.tape, iv.link.output, iv.link.size, fun n hn hno => iv.link.old n hn fun b z hb => hno b z (by rw [← hE]; exact hb), fun n hn => .inl (iv.link.subS n hn), new,
      fun b hb => (hμ b hb).trans (iv.link.mu b (by rw [hE]; exact hb)), hr, fun j k hj => ?_, fun j k hj => ?_, fun j j' a z z' hj hj' hmu hmu' => ?_⟩
    · obtain ⟨a, z, h6, h7⟩ := hwr j k hj
      have hjm : j < m := by rw [← hlen]; exact (List.getElem?_eq_some_iff.1 hj).1
      exact ⟨a, z, (iv.link.mu j (by rw [hE]; exact hjm)).symm.trans h6, h7.mono hm12 (MuLe.refl _) rfl⟩
    · have hlt := (List.getElem?_eq_some_iff.1 hj).1
      rw [h2.1] at hlt
      have hgj : gv[j]? = some (gv[j]'hlt) := List.getElem?_eq_getElem _
      obtain ⟨h6, ⟨k0, h7⟩, a, z, h8, h9⟩ := h2.2 j k _ hj hgj
      refine ⟨a, z, (hμ2 j _ hgj).trans h8, h9, fun hS => ?_, place _ k0 a z h7 h8 h6⟩
      rcases hS with hS | ⟨b', hb', k', z', hk', hmu'⟩
      · exact iv.hrel.sep _ k0 a z h7 h8 hS
      · have := iv.hrel.inj _ b' k0 k' a z z' h7 hk' h8 hmu'
        have hmem : gv[j]'hlt ∈ gv := List.getElem_mem hlt
        exact disj_spec hok3 hmem (by rw [this]; exact hb')
    · rw [h2.1] at hj hj'
      have hgj : gv[j]? = some (gv[j]'hj) := List.getElem?_eq_getElem _
      have hgj' : gv[j']? = some (gv[j']'hj') := List.getElem?_eq_getElem _
      have hkj : ks[j]? = some (ks[j]'(by rw [h2.1]; exact hj)) := List.getElem?_eq_getElem _
      have hkj' : ks[j']? = some (ks[j']'(by rw [h2.1]; exact hj')) := List.getElem?_eq_getElem _
      obtain ⟨_, ⟨k0, h7⟩, _⟩ := h2.2 j _ _ hkj hgj
      obtain ⟨_, ⟨k0', h7'⟩, _⟩ := h2.2 j' _ _ hkj' hgj'
      rw [hμ2 j _ hgj] at hmu
      rw [hμ2 j' _ hgj'] at hmu'
      have := iv.hrel.inj _ _ k0 k0' a z z' h7 h7' hmu hmu'
      exact nodup_get (nodupB_spec hok2) hgj (by rw [hgj', this])
  refine ⟨S2, μ2, ?_⟩
  match rs, us, ys, hone, h1, h4, h5, hrep2, hrep with
  | [r1], us, ys, hone, h1, h4, h5, hrep2, hrep =>
    have hu : unfr m r1 = unfrA m r1 [] := by
      cases r1 <;> first | rfl | cases hone
    simp only [unfrT] at h1
    have h1' : [(unfrA m r1 []).1] = us ∧ (unfrA m r1 []).2 = ks := by
      constructor
      · exact congrArg Prod.fst h1
      · exact congrArg Prod.snd h1
    obtain ⟨h1a, h1b⟩ := h1'
    have hy1 : ys.length = 1 := by rw [hrep.length]; simpa using h4.symm
    simp only [one]
    rw [hu, h1b]
    rw [dif_pos hy1]
    refine common _ _ ?_
    rw [← h1a] at hrep2
    match ys, hrep2 with
    | y :: ys', .cons _ _ _ _ _ hr _ => exact hr
  | [], us, ys, hone, h1, h4, h5, hrep2, hrep =>
    simp [unfrT] at h1
    obtain ⟨rfl, rfl⟩ := h1
    have hy0 : ys = [] := by
      have := hrep.length
      rw [← h4] at this
      exact List.eq_nil_of_length_eq_zero this
    subst hy0
    simp only [one, unfr, unfrT]
    exact common _ _ (.tup _ _ _ hrep2)
  | r1 :: r2 :: rs', us, ys, hone, h1, h4, h5, hrep2, hrep =>
    have hy : ¬ ys.length = 1 := by rw [hrep.length, ← h4]; simp
    simp only [one, unfr]
    rw [h1, dif_neg hy]
    exact common _ _ (.tup _ _ _ hrep2)
/-- The function may be entered. -/
structure Enters (P : Program) (g : Nat) (fn : Func) (c : Code) : Prop where
  at_ : P.funcs[g]? = some fn
  name : (fn.name == "runtime.NumGoroutine") = false
  body : fn.body = some c
theorem Does.of_calls {g : Nat} {fn : Func} {c : Code} (hg : Enters P g fn c) {vs : Array Value} {w : World} {R : Value → World → Prop} (h : Calls P g vs w fun e w' => ∃ v, e = .returned v ∧ R v w') : Does P g vs w R := by
  intro o a K Q hK
  have : (callFunc g vs).run P w = .ok (.enter g vs) w := by
    have hname : fn.name ≠ "runtime.NumGoroutine" := by simpa using hg.name
    simp [callFunc, hg.at_, hname, hg.body]
  rw [this, Oper.upon_enter]
  refine h.mono fun e w' he => ?_
  obtain ⟨v, rfl, hv⟩ := he
  exact hK v w' hv
theorem Mono.refl' (w : World) (S : Nat → Prop) : Mono w w S S := ⟨fun _ h => h, fun _ _ _ => rfl⟩
theorem evF_ok (hG : GOk G) (hO : OrcOK P G O) (hmix : P.follows .mixedOrders = true) {g : Nat} {fn : Func} {c : Code} (hg : Enters P g fn c) {args : List PV} {hs : List Blk}
    (hl : LpsOK P G pol fn.ntmps hs.length L c) {K : PV → List Blk → Tr} {x : Res} (h : (evF P O L pol fn args hs K).run = some x) : ∃ r hs', PC P G g args hs r hs' ∧ (K r hs').run = some x := by
  unfold evF at h
  rw [hg.body] at h
  simp only at h
  split at h
  case h_2 => cases h
  rename_i hle
  simp only [Nat.ble_eq] at hle
  have hn0 : (args ++ List.replicate (fn.ntmps - args.length) PV.any).length = fn.ntmps := by simp; omega
  obtain ⟨e, sN, h1, h2⟩ := evC_ok (n := fn.ntmps) (m := hs.length) hG hO hmix c _ ⟨args ++ List.replicate (fn.ntmps - args.length) .any, hs.map some⟩ x hl hn0 (by simp) h
  have h3 : (e = .ret ∨ e = .normal) ∧ (endF P fn hs.length K sN).run = some x := by
    cases e with
    | ret => exact ⟨.inl rfl, h2⟩
    | normal => exact ⟨.inr rfl, h2⟩
    | _ => cases h2
  obtain ⟨r, hs', h4, h5⟩ := endF_ok (G := G) h3.2
  refine ⟨r, hs', fun w S μ vs hGw hr hh hmu => ?_, h4⟩
  refine Does.of_calls hg (calls_of_wp hg.at_ hg.body ?_)
  refine h1.wp ⟨w, S, μ, hs.length⟩ rfl _ _ _ (fun a w' hi => ?_) ?_
  · obtain ⟨hd, v, hv, hc⟩ := h5 _ rfl a w' hi
    rcases h3.1 with rfl | rfl
    · exact ⟨hd, v, hv, v, rfl, hc⟩
    · exact ⟨hd, v, hv, v, rfl, hc⟩
  · have hlen := hr.length
    refine ⟨S, μ, hGw, rfl, ?_, fun k => ?_, hh, fun b hb => hmu b (by simpa using hb), ⟨rfl, rfl, rfl, Nat.le_refl _, fun _ _ _ => rfl, fun _ h => h, fun _ h => .inl h, fun _ _ => rfl, fun b k a z hb hm => .inr ⟨b, z, ?_, hm⟩⟩⟩
    · rw [hn0]; simp [hlen]; omega
    · simp only [List.getD_eq_getElem?_getD, Array.getD_eq_getD_getElem?]
      by_cases hk : k < args.length
      · rw [List.getElem?_append_left hk]
        obtain ⟨y, hy, hry⟩ := hr.get k (args[k]'hk) (List.getElem?_eq_getElem _)
        rw [Array.getElem?_append_left (by simp; omega)]
        simp only [List.getElem?_toArray, hy, List.getElem?_eq_getElem hk, Option.getD_some]
        exact hry
      · rw [List.getElem?_append_right (by omega)]
        have : ((List.replicate (fn.ntmps - args.length) PV.any)[k - args.length]?).getD .any = .any := by
          by_cases h' : k - args.length < fn.ntmps - args.length <;> simp [h']
        rw [this]; exact .any _ _
    · have := hget_lt hb
      simpa using this
end
end Go.Proofs.YtejfdhcigkgbmaaDoor.PE
/-! For the proofs about functions. -/
namespace Go.Proofs.YtejfdhcigkgbmaaDoor.PE
open Go

/-- Says less. -/
def VLe (u v : PV) : Prop := isAgg v = isAgg u ∧ ∀ (w : World) (S : Nat → Prop) (μ : Mu), (∀ cs, RepC w S μ u cs → RepC w S μ v cs) ∧ (∀ x, RepV w S μ u x → RepV w S μ v x)
def KLe (k k' : Blk) : Prop := ∀ (w : World) (S : Nat → Prop) (μ : Mu) (a z : Nat), BlkRel w S μ k a z → BlkRel w S μ k' a z
def KsLe (ks ks' : List Blk) : Prop := ks.length = ks'.length ∧ ∀ (j : Nat) (k k' : Blk), ks[j]? = some k → ks'[j]? = some k' → KLe k k'
theorem VLe.refl (u : PV) : VLe u u := ⟨rfl, fun _ _ _ => ⟨fun _ h => h, fun _ h => h⟩⟩
theorem VLe.trans {u v w : PV} (h : VLe u v) (h' : VLe v w) : VLe u w := ⟨h'.1.trans h.1, fun a b c => ⟨fun cs hc => (h'.2 a b c).1 cs ((h.2 a b c).1 cs hc), fun x hx => (h'.2 a b c).2 x ((h.2 a b c).2 x hx)⟩⟩
theorem KLe.refl (k : Blk) : KLe k k := fun _ _ _ _ _ h => h
theorem KsLe.refl (ks : List Blk) : KsLe ks ks := ⟨rfl, fun j k k' h h' => by rw [h] at h'; cases h'; exact .refl _⟩
/-- A result says less. -/
structure RLe (r r' : PV) : Prop where
  v : ∀ m, VLe (unfr m r).1 (unfr m r').1
  k : ∀ m, KsLe (unfr m r).2 (unfr m r').2
theorem RLe.refl (r : PV) : RLe r r := ⟨fun _ => .refl _, fun _ => .refl _⟩
theorem RLe.of {r r' : PV} (h : r = r') : RLe r r' := h ▸ .refl r
theorem PC.le {P : Program} {G : World → (Nat → Prop) → Prop} {g : Nat} {args : List PV} {hs : List Blk} {r r' : PV} {hs' hs'' : List Blk} (h : PC P G g args hs r hs') (hr : RLe r r') (hk : KsLe hs' hs'') : PC P G g args hs r' hs'' := by
  intro w S μ vs hg hrep hh hmu
  refine (h w S μ vs hg hrep hh hmu).mono fun v w' hv => ?_
  obtain ⟨S', μ', c⟩ := hv
  obtain ⟨hl, hk2⟩ := hr.k hs.length
  refine ⟨S', μ', ⟨c.os, c.tape, c.output, c.size, c.old, c.subS, c.newS, c.mu, ((hr.v hs.length).2 _ _ _).2 _ c.rep, fun j k hj => ?_, fun j k hj => ?_, fun j j' a z z' hj hj' => c.nwInj j j' a z z' (by omega) (by omega)⟩⟩
  · have hlt := (List.getElem?_eq_some_iff.1 hj).1
    have : hs'[j]? = some (hs'[j]'(by rw [hk.1]; exact hlt)) := List.getElem?_eq_getElem _
    obtain ⟨a, z, h1, h2⟩ := c.wr j _ this
    exact ⟨a, z, h1, hk.2 j _ _ this hj _ _ _ _ _ h2⟩
  · have hlt := (List.getElem?_eq_some_iff.1 hj).1
    have : (unfr hs.length r).2[j]? = some ((unfr hs.length r).2[j]'(by rw [hl]; exact hlt)) := List.getElem?_eq_getElem _
    obtain ⟨a, z, h1, h2, h3⟩ := c.nw j _ this
    exact ⟨a, z, h1, hk2 j _ _ this hj _ _ _ _ _ h2, h3⟩
def retK : PV → List Blk → Tr := fun r hs => .ok (.ret r hs)
/-- A function as it is evaluated ends so. -/
theorem evF_pc {P : Program} {G : World → (Nat → Prop) → Prop} (hG : GOk G) {O : Orc} (hO : OrcOK P G O) (hmix : P.follows .mixedOrders = true) {g : Nat} {fn : Func} {c : Code} (hg : Enters P g fn c)
    {L : Lps} {pol : Pol} {args : List PV} {hs : List Blk} (hl : LpsOK P G pol fn.ntmps hs.length L c) {r : PV} {hs' : List Blk} (h : (evF P O L pol fn args hs retK).run = some (.ret r hs')) : PC P G g args hs r hs' := by
  obtain ⟨r1, hs1, h1, h2⟩ := evF_ok hG hO hmix hg hl h
  simp [retK, Tr.run] at h2
  obtain ⟨rfl, rfl⟩ := h2
  exact h1
/-- A spec that is the evaluation itself. -/
theorem spec_ev {P : Program} {G : World → (Nat → Prop) → Prop} (hG : GOk G) {O : Orc} (hO : OrcOK P G O) (hmix : P.follows .mixedOrders = true) {g : Nat} {fn : Func} {c : Code} (hg : Enters P g fn c)
    {L : Lps} {pol : Pol} (hl : ∀ m, LpsOK P G pol fn.ntmps m L c) : SpecOK P G g (evF P O L pol fn) := fun _ hs _ _ h => evF_ok hG hO hmix hg (hl hs.length) h
def bodyC (fn : Func) : Code := fn.body.getD .skip
theorem OrcOK.nil {P : Program} {G : World → (Nat → Prop) → Prop} : OrcOK P G [] := fun _ _ h => by cases h
theorem OrcOK.cons {P : Program} {G : World → (Nat → Prop) → Prop} {g : Nat} {sp : Spec} {O : Orc} (h : SpecOK P G g sp) (hO : OrcOK P G O) : OrcOK P G ((g, sp) :: O) := by
  intro k s hk
  simp only [Orc.look] at hk
  split at hk
  · rename_i he
    simp at he hk; subst he; subst hk
    exact h
  · exact hO k s hk
theorem LpsOK.none {P : Program} {G : World → (Nat → Prop) → Prop} {pol : Pol} {n m : Nat} {L : Lps} {c : Code} (h : loopsOf c = []) : LpsOK P G pol n m L c := by
  intro a ha; rw [h] at ha; cases ha
theorem LpsOK.of {P : Program} {G : World → (Nat → Prop) → Prop} {pol : Pol} {n m : Nat} {L : Lps} {c : Code} {l : List Code} (hl : loopsOf c = l)
    (h : ∀ a ∈ l, ∀ live sp, assoc (firstReg a) pol.live = some live → Lps.look (firstReg a) L = some sp → LoopOK P G n m live a sp) : LpsOK P G pol n m L c := by
  intro a ha; rw [hl] at ha; exact h a ha
/-- A loop that goes n rounds, and out. -/
theorem Goes.count {R : LS → Exit → LS → Prop} (st : Nat → LS) {e : Exit} {ls' : LS} (he : e ≠ .normal) : ∀ (n i : Nat), (∀ j, i ≤ j → j < i + n → R (st j) .normal (st (j + 1))) → R (st (i + n)) e ls' → Goes R (st i) e ls'
  | 0, i, _, hl => .last _ _ _ hl he
  | n + 1, i, h, hl => .more _ (st (i + 1)) _ _ (h i (Nat.le_refl _) (by omega)) (Goes.count st he n (i + 1) (fun j h1 h2 => h j (by omega) (by omega)) (by rw [show i + 1 + n = i + (n + 1) by omega]; exact hl))
/-- One loop, with its spec. -/
theorem lps1 {P : Program} {G : World → (Nat → Prop) → Prop} {pol : Pol} {n m : Nat} {L : Lps} {c b : Code} {live : List Nat} {sp : LSpec} (hc : loopsOf c = [b]) (e1 : assoc (firstReg b) pol.live = some live)
    (e2 : Lps.look (firstReg b) L = some sp) (h : LoopOK P G n m live b sp) : LpsOK P G pol n m L c := by
  refine LpsOK.of hc fun a ha live' sp' h1 h2 => ?_
  simp at ha; subst ha
  rw [e1] at h1; rw [e2] at h2
  cases h1; cases h2
  exact h

theorem Tr.run_t {b : Bool} {x y : Tr} (h : b = true) : (Tr.br b x y).run = x.run := by subst h; rfl
theorem Tr.run_f {b : Bool} {x y : Tr} (h : b = false) : (Tr.br b x y).run = y.run := by subst h; rfl
theorem Tr.of_br {b : Bool} {x : Tr} {n : Nat} {r : Res} (h : (Tr.br b x (.no n)).run = some r) : b = true ∧ x.run = some r := by
  cases b with
  | true => exact ⟨rfl, h⟩
  | false => cases h
theorem Tr.run_ok {r : Res} : (Tr.ok r).run = some r := rfl
end Go.Proofs.YtejfdhcigkgbmaaDoor.PE
/-! Natural numbers as bytes and as digits: plain laws. -/
namespace Go.Proofs.YtejfdhcigkgbmaaDoor.PE

def bv (l : List UInt8) : Nat := l.foldl (fun n b => n * 256 + b.toNat) 0
theorem bv_foldl (l : List UInt8) : ∀ a, l.foldl (fun n b => n * 256 + b.toNat) a = a * 256 ^ l.length + bv l := by
  induction l with
  | nil => intro a; simp [bv]
  | cons b l ih =>
    intro a
    simp only [bv, List.foldl_cons, List.length_cons]
    rw [ih, ih]
    rw [Nat.pow_succ]
    simp only [Nat.zero_mul, Nat.zero_add, Nat.add_mul]
    rw [Nat.mul_assoc, Nat.mul_comm 256, Nat.add_assoc]
theorem bv_append (l m : List UInt8) : bv (l ++ m) = bv l * 256 ^ m.length + bv m := by
  simp only [bv, List.foldl_append]
  exact bv_foldl m _
@[simp] theorem bv_nil : bv [] = 0 := rfl
@[simp] theorem bv_one (b : UInt8) : bv [b] = b.toNat := by simp [bv]
theorem bv_snoc (l : List UInt8) (b : UInt8) : bv (l ++ [b]) = bv l * 256 + b.toNat := by rw [bv_append]; simp
theorem bv_cons (b : UInt8) (l : List UInt8) : bv (b :: l) = b.toNat * 256 ^ l.length + bv l := by
  have := bv_append [b] l
  simpa using this
theorem bv_lt (l : List UInt8) : bv l < 256 ^ l.length := by
  induction l with
  | nil => simp
  | cons b l ih =>
    rw [bv_cons, List.length_cons, Nat.pow_succ]
    have hb : b.toNat < 256 := b.toNat_lt
    have h1 : b.toNat * 256 ^ l.length ≤ 255 * 256 ^ l.length := Nat.mul_le_mul_right _ (by omega)
    omega
theorem bv_zero_cons (l : List UInt8) : bv (0 :: l) = bv l := by rw [bv_cons]; simp

/-- The bytes of a number, most significant first. -/
def nbl (n : Nat) : List UInt8 := natBytesL n n []
theorem natBytesL_acc : ∀ (d n : Nat) (acc : List UInt8), n ≤ d → natBytesL d n acc = natBytesL n n [] ++ acc := by
  intro d
  induction d using Nat.strongRecOn with
  | _ d ih =>
    intro n acc hn
    by_cases h0 : n = 0
    · subst h0
      cases d <;> simp [natBytesL]
    · obtain ⟨d', rfl⟩ : ∃ d', d = d' + 1 := ⟨d - 1, by omega⟩
      obtain ⟨n', rfl⟩ : ∃ n', n = n' + 1 := ⟨n - 1, by omega⟩
      have hlt : (n' + 1) / 256 ≤ n' := by omega
      simp only [natBytesL, if_neg h0]
      rw [ih d' (by omega) _ _ (by omega), ih n' (by omega) _ [_] hlt, List.append_assoc]
      rfl
theorem nbl_zero : nbl 0 = [] := rfl
theorem nbl_pos {n : Nat} (h : n ≠ 0) : nbl n = nbl (n / 256) ++ [UInt8.ofNat (n % 256)] := by
  obtain ⟨n', rfl⟩ : ∃ n', n = n' + 1 := ⟨n - 1, by omega⟩
  unfold nbl
  simp only [natBytesL, if_neg h]
  exact natBytesL_acc _ _ _ (by omega)
theorem ofNat_toNat (n : Nat) (h : n < 256) : (UInt8.ofNat n).toNat = n := by
  simp [UInt8.toNat_ofNat']
  omega
theorem bv_nbl (n : Nat) : bv (nbl n) = n := by
  induction n using Nat.strongRecOn with
  | _ n ih =>
    by_cases h : n = 0
    · subst h; rfl
    · rw [nbl_pos h, bv_snoc, ih _ (by omega), ofNat_toNat _ (by omega)]
      omega
theorem nbl_eq_nil {n : Nat} : nbl n = [] ↔ n = 0 := by
  constructor
  · intro h
    have := bv_nbl n
    rw [h] at this
    exact this.symm
  · intro h; subst h; rfl
theorem nbl_inj {n m : Nat} (h : nbl n = nbl m) : n = m := by rw [← bv_nbl n, h, bv_nbl]
theorem bv_eq_zero {l : List UInt8} : bv l = 0 ↔ ∀ b ∈ l, b = 0 := by
  induction l with
  | nil => simp
  | cons b l ih =>
    rw [bv_cons]
    constructor
    · intro h c hc
      have hp : 0 < 256 ^ l.length := Nat.pow_pos (by omega)
      have h1 : b.toNat * 256 ^ l.length = 0 := by omega
      have hb : b.toNat = 0 := by
        rcases Nat.mul_eq_zero.1 h1 with h | h
        · exact h
        · omega
      rcases List.mem_cons.1 hc with rfl | hc
      · exact UInt8.toNat_inj.1 (by simpa using hb)
      · exact ih.1 (by omega) c hc
    · intro h
      rw [h b (by simp), ih.2 fun c hc => h c (by simp [hc])]
      simp
theorem nbl_bv (l : List UInt8) : nbl (bv l) = l.dropWhile (· == 0) := by
  have key : ∀ (r : List UInt8), nbl (bv r.reverse) = r.reverse.dropWhile (· == 0) := by
    intro r
    induction r with
    | nil => rfl
    | cons b r ih =>
      rw [List.reverse_cons, bv_snoc]
      have hb := b.toNat_lt
      by_cases h0 : bv r.reverse = 0
      · have hz : ∀ c ∈ r.reverse, (c == 0) = true := fun c hc => by simpa using bv_eq_zero.1 h0 c hc
        have hd : (r.reverse ++ [b]).dropWhile (· == 0) = [b].dropWhile (· == 0) := by
          rw [List.dropWhile_append_of_pos]
          exact hz
        rw [hd, h0]
        by_cases hb0 : b = 0
        · subst hb0; rfl
        · have hbn : b.toNat ≠ 0 := fun h => hb0 (UInt8.toNat_inj.1 (by simpa using h))
          rw [nbl_pos (by omega)]
          have h1 : (0 * 256 + b.toNat) / 256 = 0 := by omega
          have h2 : (0 * 256 + b.toNat) % 256 = b.toNat := by omega
          rw [h1, h2, nbl_zero]
          have hb1 : (b == 0) = false := by simpa using hb0
          simp [List.dropWhile, hb1]
      · have hd : (r.reverse ++ [b]).dropWhile (· == 0) = r.reverse.dropWhile (· == 0) ++ [b] := by
          rw [List.dropWhile_append]
          have : (r.reverse.dropWhile (· == 0)).isEmpty = false := by
            rw [← ih]
            cases hh : nbl (bv r.reverse) with
            | nil => exact absurd (nbl_eq_nil.1 hh) h0
            | cons _ _ => rfl
          rw [this]; rfl
        rw [hd, nbl_pos (by omega)]
        have h1 : (bv r.reverse * 256 + b.toNat) / 256 = bv r.reverse := by omega
        have h2 : (bv r.reverse * 256 + b.toNat) % 256 = b.toNat := by omega
        rw [h1, h2, ih]
        simp
  have := key l.reverse
  rwa [List.reverse_reverse] at this
theorem nbl_length_le {n k : Nat} (h : n < 256 ^ k) : (nbl n).length ≤ k := by
  induction k generalizing n with
  | zero => have : n = 0 := by simpa using h
            subst this; simp [nbl_zero]
  | succ k ih =>
    by_cases h0 : n = 0
    · subst h0; simp [nbl_zero]
    · rw [nbl_pos h0]
      have : n / 256 < 256 ^ k := by
        rw [Nat.div_lt_iff_lt_mul (by omega)]
        rw [Nat.pow_succ] at h
        exact h
      have := ih this
      simp; omega
theorem nbl_lt (n : Nat) : n < 256 ^ (nbl n).length := by
  have := bv_lt (nbl n)
  rwa [bv_nbl] at this
theorem nbl_le {n : Nat} (h : n ≠ 0) : 256 ^ ((nbl n).length - 1) ≤ n := by
  rcases Nat.lt_or_ge n (256 ^ ((nbl n).length - 1)) with h1 | h1
  · have h2 := nbl_length_le h1
    have h3 : (nbl n).length ≠ 0 := fun h4 => h (nbl_eq_nil.1 (List.eq_nil_of_length_eq_zero h4))
    omega
  · exact h1
theorem nb_eq (n : Nat) : nb n = ⟨(nbl n).toArray⟩ := rfl
theorem nb_data (n : Nat) : (nb n).data.toList = nbl n := rfl
theorem nb_size (n : Nat) : (nb n).size = (nbl n).length := by simp [nb_eq, ByteArray.size]

/-! ### Digits, the least first -/
def lv (B : Nat) : List Int → Nat
  | [] => 0
  | x :: xs => x.toNat + B * lv B xs
theorem lv_append (B : Nat) (xs ys : List Int) : lv B (xs ++ ys) = lv B xs + B ^ xs.length * lv B ys := by
  induction xs with
  | nil => simp [lv]
  | cons x xs ih =>
    simp only [List.cons_append, lv, List.length_cons, ih, Nat.pow_succ, Nat.mul_add]
    rw [Nat.add_assoc, Nat.mul_comm (B ^ xs.length) B, Nat.mul_assoc]
theorem lv_lt {B : Nat} : ∀ {xs : List Int}, (∀ x ∈ xs, x.toNat < B) → lv B xs < B ^ xs.length
  | [], _ => by simp [lv]
  | x :: xs, h => by
    have h1 := h x (by simp)
    have h2 := lv_lt (xs := xs) fun y hy => h y (by simp [hy])
    simp only [lv, List.length_cons, Nat.pow_succ]
    have h3 : B * (lv B xs + 1) ≤ B * B ^ xs.length := Nat.mul_le_mul_left _ h2
    rw [Nat.mul_add, Nat.mul_one] at h3
    rw [Nat.mul_comm (B ^ xs.length)]
    omega
theorem lv_zeros (B n : Nat) : lv B (List.replicate n 0) = 0 := by
  induction n with
  | zero => rfl
  | succ n ih => simp [List.replicate_succ, lv, ih]
/-- The digits of a number, none of them superfluous. -/
def dgF (B : Nat) : Nat → Nat → List Int
  | 0, _ => []
  | f + 1, n => if n = 0 then [] else ((n % B : Nat) : Int) :: dgF B f (n / B)
def dg (B n : Nat) : List Int := dgF B n n
theorem dgF_eq {B : Nat} (hB : 2 ≤ B) : ∀ (f g n : Nat), n ≤ f → n ≤ g → dgF B f n = dgF B g n := by
  intro f
  induction f with
  | zero => intro g n h1 h2; have : n = 0 := by omega
            subst this; cases g <;> simp [dgF]
  | succ f ih =>
    intro g n h1 h2
    by_cases h0 : n = 0
    · subst h0; cases g <;> simp [dgF]
    · obtain ⟨g', rfl⟩ : ∃ g', g = g' + 1 := ⟨g - 1, by omega⟩
      have : n / B < n := Nat.div_lt_self (by omega) (by omega)
      simp only [dgF, if_neg h0]
      rw [ih g' (n / B) (by omega) (by omega)]
theorem dg_zero (B : Nat) : dg B 0 = [] := rfl
theorem dg_pos {B n : Nat} (hB : 2 ≤ B) (h : n ≠ 0) : dg B n = ((n % B : Nat) : Int) :: dg B (n / B) := by
  obtain ⟨n', rfl⟩ : ∃ n', n = n' + 1 := ⟨n - 1, by omega⟩
  have : (n' + 1) / B < n' + 1 := Nat.div_lt_self (by omega) (by omega)
  unfold dg
  simp only [dgF, if_neg h]
  rw [dgF_eq hB n' ((n' + 1) / B) _ (by omega) (Nat.le_refl _)]
theorem lv_dg {B : Nat} (hB : 2 ≤ B) (n : Nat) : lv B (dg B n) = n := by
  induction n using Nat.strongRecOn with
  | _ n ih =>
    by_cases h : n = 0
    · subst h; rfl
    · have : n / B < n := Nat.div_lt_self (by omega) (by omega)
      rw [dg_pos hB h]
      simp only [lv, ih _ this, Int.toNat_natCast]
      exact Nat.mod_add_div n B
theorem dg_mem {B : Nat} (hB : 2 ≤ B) (n : Nat) : ∀ x ∈ dg B n, 0 ≤ x ∧ x < (B : Int) := by
  induction n using Nat.strongRecOn with
  | _ n ih =>
    by_cases h : n = 0
    · subst h; intro x hx; cases hx
    · have h1 : n / B < n := Nat.div_lt_self (by omega) (by omega)
      rw [dg_pos hB h]
      intro x hx
      rcases List.mem_cons.1 hx with rfl | hx
      · have := Nat.mod_lt n (show 0 < B by omega)
        omega
      · exact ih _ h1 x hx
theorem dg_length_le {B n k : Nat} (hB : 2 ≤ B) (h : n < B ^ k) : (dg B n).length ≤ k := by
  induction k generalizing n with
  | zero => have : n = 0 := by simpa using h
            subst this; simp [dg_zero]
  | succ k ih =>
    by_cases h0 : n = 0
    · subst h0; simp [dg_zero]
    · rw [dg_pos hB h0]
      have : n / B < B ^ k := by
        rw [Nat.div_lt_iff_lt_mul (by omega)]
        rw [Nat.pow_succ] at h
        exact h
      have := ih this
      simp; omega
theorem dg_lt {B : Nat} (hB : 2 ≤ B) (n : Nat) : n < B ^ (dg B n).length := by
  have := lv_lt (B := B) (xs := dg B n) fun x hx => by have := dg_mem hB n x hx; omega
  rwa [lv_dg hB] at this
theorem dg_le {B n : Nat} (hB : 2 ≤ B) (h : n ≠ 0) : B ^ ((dg B n).length - 1) ≤ n := by
  rcases Nat.lt_or_ge n (B ^ ((dg B n).length - 1)) with h1 | h1
  · have h2 := dg_length_le hB h1
    have h3 : (dg B n).length ≠ 0 := fun h4 => by
      have h5 := List.eq_nil_of_length_eq_zero h4
      have := lv_dg hB n
      rw [h5] at this
      exact h this.symm
    omega
  · exact h1
/-- Digits are told by their value and their number. -/
theorem lv_inj {B : Nat} : ∀ {xs ys : List Int}, xs.length = ys.length → (∀ x ∈ xs, 0 ≤ x ∧ x < (B : Int)) → (∀ y ∈ ys, 0 ≤ y ∧ y < (B : Int)) → lv B xs = lv B ys → xs = ys
  | [], [], _, _, _, _ => rfl
  | [], _ :: _, h, _, _, _ => by simp at h
  | _ :: _, [], h, _, _, _ => by simp at h
  | x :: xs, y :: ys, hl, hx, hy, h => by
    have h1 := hx x (by simp)
    have h2 := hy y (by simp)
    simp only [lv] at h
    have hB : 0 < B := by omega
    have e1 : (x.toNat + B * lv B xs) % B = x.toNat := by rw [Nat.add_mul_mod_self_left]; exact Nat.mod_eq_of_lt (by omega)
    have e2 : (y.toNat + B * lv B ys) % B = y.toNat := by rw [Nat.add_mul_mod_self_left]; exact Nat.mod_eq_of_lt (by omega)
    have e3 : x.toNat = y.toNat := by rw [← e1, h, e2]
    have e4 : B * lv B xs = B * lv B ys := by omega
    have e5 := Nat.eq_of_mul_eq_mul_left hB e4
    rw [lv_inj (by simpa using hl) (fun z hz => hx z (by simp [hz])) (fun z hz => hy z (by simp [hz])) e5]
    have : x = y := by omega
    rw [this]
end Go.Proofs.YtejfdhcigkgbmaaDoor.PE
namespace Go.Proofs.YtejfdhcigkgbmaaDoor.PE
open Go
theorem ba_len (a : ByteArray) : a.data.toList.length = a.size := by rw [Array.length_toList]; rfl
def bs (l : List UInt8) : ByteArray := ⟨l.toArray⟩
theorem bs_data (l : List UInt8) : (bs l).data.toList = l := rfl
theorem bs_eq (a : ByteArray) : a = bs a.data.toList := by cases a; rfl
theorem bs_size (l : List UInt8) : (bs l).size = l.length := by rw [← ba_len, bs_data]
theorem bs_inj {l m : List UInt8} (h : bs l = bs m) : l = m := by rw [← bs_data l, h, bs_data]
theorem nb_bs (n : Nat) : nb n = bs (nbl n) := rfl
theorem bs_extract (l : List UInt8) (i j : Nat) : (bs l).extract i j = bs ((l.take j).drop i) := by
  rw [bs_eq ((bs l).extract i j)]
  congr 1
  rw [ByteArray.data_extract, Array.toList_extract, bs_data]
  simp [List.extract, List.drop_take]
theorem toNat_ofInt (n : Nat) (x : Int) (h0 : 0 ≤ x) (h1 : x < 2 ^ n) : (BitVec.ofInt n x).toNat = x.toNat := by
  obtain ⟨m, rfl⟩ := Int.eq_ofNat_of_zero_le h0
  rw [BitVec.toNat_ofInt]
  have : ((m : Int) % ((2 ^ n : Nat) : Int)) = m := by
    refine Int.emod_eq_of_lt h0 ?_
    simpa using h1
  rw [this]
theorem or_add (n k : Nat) (a b : Int) (ha : 0 ≤ a) (hb : 0 ≤ b) (hb1 : b < 2 ^ k) (hs : a * 2 ^ k + b < 2 ^ n) :
    (BitVec.ofInt n (a * 2 ^ k) ||| BitVec.ofInt n b).toNat = (a * 2 ^ k + b).toNat := by
  have hp : (0 : Int) < 2 ^ k := by
    have := Nat.pow_pos (n := k) (show 0 < 2 by omega)
    exact_mod_cast this
  have ha2 : 0 ≤ a * 2 ^ k := Int.mul_nonneg ha (by omega)
  rw [BitVec.toNat_or, toNat_ofInt n _ ha2 (by omega), toNat_ofInt n _ hb (by omega)]
  obtain ⟨x, rfl⟩ := Int.eq_ofNat_of_zero_le ha
  obtain ⟨y, rfl⟩ := Int.eq_ofNat_of_zero_le hb
  have hy : y < 2 ^ k := by exact_mod_cast hb1
  have e1 : ((x : Int) * 2 ^ k).toNat = x <<< k := by
    rw [Nat.shiftLeft_eq]
    have : ((x : Int) * 2 ^ k) = ((x * 2 ^ k : Nat) : Int) := by simp
    rw [this, Int.toNat_natCast]
  have e2 : ((x : Int) * 2 ^ k + y).toNat = x <<< k + y := by
    rw [Nat.shiftLeft_eq]
    have : ((x : Int) * 2 ^ k + y) = ((x * 2 ^ k + y : Nat) : Int) := by simp
    rw [this, Int.toNat_natCast]
  rw [e1, e2, Int.toNat_natCast, Nat.shiftLeft_add_eq_or_of_lt hy]
theorem w64 {n : Int} (h0 : 0 ≤ n) (h1 : n < 18446744073709551616) : IntKind.u64.wrap n = n := by rw [IntKind.wrap_u64]; omega
theorem w32 {n : Int} (h0 : 0 ≤ n) (h1 : n < 4294967296) : IntKind.u32.wrap n = n := by rw [IntKind.wrap_u32']; omega
theorem w8 {n : Int} (h0 : 0 ≤ n) (h1 : n < 256) : IntKind.u8.wrap n = n := by rw [IntKind.wrap_u8']; omega
theorem wi64 {n : Int} (h0 : -9223372036854775808 ≤ n) (h1 : n ≤ 9223372036854775807) : IntKind.i64.wrap n = n := by rw [IntKind.wrap_i64]; omega
theorem or64 (k : Nat) (a b : Int) (ha : 0 ≤ a) (hb : 0 ≤ b) (hb1 : b < 2 ^ k) (hs : a * 2 ^ k + b < 18446744073709551616) :
    IntKind.u64.wrap ((BitVec.ofInt IntKind.u64.bits (a * 2 ^ k) ||| BitVec.ofInt IntKind.u64.bits b).toNat : Int) = a * 2 ^ k + b := by
  have h := or_add 64 k a b ha hb hb1 hs
  have hp : (0 : Int) < 2 ^ k := by
    have := Nat.pow_pos (n := k) (show 0 < 2 by omega)
    exact_mod_cast this
  have ha2 : 0 ≤ a * 2 ^ k := Int.mul_nonneg ha (by omega)
  show IntKind.u64.wrap ((BitVec.ofInt 64 (a * 2 ^ k) ||| BitVec.ofInt 64 b).toNat : Int) = a * 2 ^ k + b
  rw [h, w64 (by omega) (by omega)]
  omega
theorem or32 (k : Nat) (a b : Int) (ha : 0 ≤ a) (hb : 0 ≤ b) (hb1 : b < 2 ^ k) (hs : a * 2 ^ k + b < 4294967296) :
    IntKind.u32.wrap ((BitVec.ofInt IntKind.u32.bits (a * 2 ^ k) ||| BitVec.ofInt IntKind.u32.bits b).toNat : Int) = a * 2 ^ k + b := by
  have h := or_add 32 k a b ha hb hb1 hs
  have hp : (0 : Int) < 2 ^ k := by
    have := Nat.pow_pos (n := k) (show 0 < 2 by omega)
    exact_mod_cast this
  have ha2 : 0 ≤ a * 2 ^ k := Int.mul_nonneg ha (by omega)
  show IntKind.u32.wrap ((BitVec.ofInt 32 (a * 2 ^ k) ||| BitVec.ofInt 32 b).toNat : Int) = a * 2 ^ k + b
  rw [h, w32 (by omega) (by omega)]
  omega
theorem or32c (k : Nat) (a b : Int) (ha : 0 ≤ a) (hb : 0 ≤ b) (hb1 : b < 2 ^ k) (hs : a * 2 ^ k + b < 4294967296) :
    IntKind.u32.wrap ((BitVec.ofInt IntKind.u32.bits b ||| BitVec.ofInt IntKind.u32.bits (a * 2 ^ k)).toNat : Int) = a * 2 ^ k + b := by
  rw [BitVec.or_comm]; exact or32 k a b ha hb hb1 hs
theorem or64c (k : Nat) (a b : Int) (ha : 0 ≤ a) (hb : 0 ≤ b) (hb1 : b < 2 ^ k) (hs : a * 2 ^ k + b < 18446744073709551616) :
    IntKind.u64.wrap ((BitVec.ofInt IntKind.u64.bits b ||| BitVec.ofInt IntKind.u64.bits (a * 2 ^ k)).toNat : Int) = a * 2 ^ k + b := by
  rw [BitVec.or_comm]; exact or64 k a b ha hb hb1 hs
end Go.Proofs.YtejfdhcigkgbmaaDoor.PE
namespace Go.Proofs.YtejfdhcigkgbmaaDoor.PE
open Go
set_option maxRecDepth 100000
theorem mix : Tryd.prog.follows .mixedOrders = true := by kernel_rfl
variable {G : World → (Nat → Prop) → Prop} (hG : GOk G)

/-! nat.short -/
noncomputable def b116 : Code := (loopsOf (bodyC Tryd.f116)).getD 0 .skip
def pol116 : Pol := { live := [(3, [0, 3, 6, 7])] }
theorem enter116 : Enters Tryd.prog 116 Tryd.f116 (bodyC Tryd.f116) := ⟨Tryd.func116, by kernel_rfl, rfl⟩
theorem r116 (a : ByteArray) (acc n i : Int) : evRound Tryd.prog [] [] pol116 Tryd.f116.ntmps 0 [0, 3, 6, 7] b116 ⟨[.s a, .i .u64 acc, .i .i64 n, .i .i64 i], []⟩ =
  Tr.br (decide (i < n))
    (Tr.br (decide ((0 : Int) ≤ (8 : Int)))
      (Tr.br (decide ((0 : Int) ≤ i) && decide (i < (↑a.size : Int)))
        (Tr.br
          (decide ((-9223372036854775808 : Int) ≤ i + (1 : Int)) && decide (i + (1 : Int) ≤ (9223372036854775807 : Int)))
          (Tr.ok
            (Res.out Exit.normal
              {
                t :=
                  [PV.s a,
                    PV.i IntKind.u64
                      (IntKind.u64.wrap
                        (↑(BitVec.ofInt IntKind.u64.bits
                                  (IntKind.u64.wrap (acc * (2 : Int) ^ min (Int.toNat (8 : Int)) IntKind.u64.bits)) |||
                                BitVec.ofInt IntKind.u64.bits
                                  (IntKind.u64.wrap (↑(a.data.toList.getD i.toNat (0 : UInt8)).toNat : Int))).toNat :
                          Int)),
                    PV.i IntKind.i64 n, PV.i IntKind.i64 (i + (1 : Int))],
                h := [] }))
          (Tr.no (7002)))
        (Tr.no (6004)))
      (Tr.no (6007)))
    (Tr.ok
      (Res.out (Exit.exit (0))
        { t := [PV.s a, PV.i IntKind.u64 acc, PV.i IntKind.i64 n, PV.i IntKind.i64 i], h := [] })) := by kernel_rfl
def l116 : LSpec := fun ls K => match ls with
  | ⟨[.s a, .i .u64 0, .i .i64 n, .i .i64 0], []⟩ => .br (decide (n = a.size) && Nat.ble a.size 8) (K (.exit 0) ⟨[.s a, .i .u64 (bv a.data.toList), .i .i64 a.size, .i .i64 a.size], []⟩) (.no 1)
  | _ => .no 1
theorem e116 (a : ByteArray) : evF Tryd.prog [] [(3, l116)] pol116 Tryd.f116 [.s a] [] retK =
  Tr.br (decide ((↑a.size : Int) = (↑a.size : Int)) && a.size.ble (8 : Nat))
    (Tr.ok (Res.ret (PV.i IntKind.u64 (↑(bv a.data.toList) : Int)) [])) (Tr.no (1)) := by kernel_rfl
theorem take_succ_bv (l : List UInt8) (i : Nat) (h : i < l.length) : bv (l.take (i + 1)) = bv (l.take i) * 256 + (l.getD i 0).toNat := by
  rw [List.take_succ_eq_append_getElem h, bv_snoc]
  simp [List.getD_eq_getElem?_getD, h]
theorem step116 (a : ByteArray) (ha : a.size ≤ 8) (i : Nat) (hi : i < a.size) :
    (evRound Tryd.prog [] [] pol116 Tryd.f116.ntmps 0 [0, 3, 6, 7] b116 ⟨[.s a, .i .u64 (bv (a.data.toList.take i)), .i .i64 a.size, .i .i64 i], []⟩).run =
      some (.out .normal ⟨[.s a, .i .u64 (bv (a.data.toList.take (i + 1))), .i .i64 a.size, .i .i64 ((i + 1 : Nat) : Int)], []⟩) := by
  have hl := ba_len a
  rw [r116]
  repeat rw [Tr.run_t (by simp only [Bool.and_eq_true, decide_eq_true_eq]; omega)]
  rw [Tr.run_ok]
  have h1 : ((i : Int) + 1) = ((i + 1 : Nat) : Int) := by simp
  have hlt : bv (a.data.toList.take i) < 256 ^ i := by
    have := bv_lt (a.data.toList.take i)
    rwa [List.length_take, Nat.min_eq_left (by omega)] at this
  have hlt7 : bv (a.data.toList.take i) < 256 ^ 7 := Nat.lt_of_lt_of_le hlt (Nat.pow_le_pow_right (by omega) (by omega))
  have hb : (a.data.toList.getD i 0).toNat < 256 := (a.data.toList.getD i 0).toNat_lt
  have h2 : IntKind.u64.wrap ↑(BitVec.ofInt IntKind.u64.bits (IntKind.u64.wrap ((bv (a.data.toList.take i) : Int) * 2 ^ min (Int.toNat 8) IntKind.u64.bits)) |||
         BitVec.ofInt IntKind.u64.bits (IntKind.u64.wrap ↑(a.data.toList.getD (i : Int).toNat 0).toNat)).toNat = (bv (a.data.toList.take (i + 1)) : Int) := by
    rw [take_succ_bv _ _ (by omega)]
    have e0 : min (Int.toNat 8) IntKind.u64.bits = 8 := rfl
    have e1 : (i : Int).toNat = i := Int.toNat_natCast i
    rw [e0, e1, w64 (n := (bv (a.data.toList.take i) : Int) * 2 ^ 8) (by omega) (by omega), w64 (n := ((a.data.toList.getD i 0).toNat : Int)) (by omega) (by omega), or64 8 _ _ (by omega) (by omega) (by omega) (by omega)]
    omega
  rw [h1, h2]
include hG
theorem loop116 : LoopOK Tryd.prog G Tryd.f116.ntmps 0 [0, 3, 6, 7] b116 l116 := by
  intro ls K x hm h
  unfold l116 at h
  split at h
  case h_2 => cases h
  rename_i a n
  obtain ⟨hc, hr⟩ := Tr.of_br h
  simp only [Bool.and_eq_true, decide_eq_true_eq, Nat.ble_eq] at hc
  obtain ⟨rfl, ha⟩ := hc
  have hl := ba_len a
  refine ⟨_, _, goes_ok (Goes.count (fun i => ⟨[.s a, .i .u64 (bv (a.data.toList.take i)), .i .i64 a.size, .i .i64 i], []⟩) (by simp) a.size 0 (fun j h1 h2 => ?_) ?_), hr⟩
  · exact round_ok hG OrcOK.nil mix (L := []) (pol := pol116) (O := []) (LpsOK.none (by kernel_rfl)) (Nat.zero_le _) (step116 a ha j (by omega))
  · refine round_ok hG OrcOK.nil mix (L := []) (pol := pol116) (O := []) (LpsOK.none (by kernel_rfl)) (Nat.zero_le _) ?_
    rw [r116, Tr.run_f (decide_eq_false (by omega)), Tr.run_ok, Nat.zero_add, List.take_of_length_le (by omega)]
omit hG
def s116 : Spec := fun args hs K => match args, hs with
  | [.s a], [] => .br (Nat.ble a.size 8) (K (.i .u64 (bv a.data.toList)) []) (.no 1)
  | _, _ => .no 1
include hG
theorem ok116 : SpecOK Tryd.prog G 116 s116 := by
  intro args hs K x h
  unfold s116 at h
  split at h
  case h_2 => cases h
  rename_i a
  obtain ⟨hc, hr⟩ := Tr.of_br h
  refine ⟨_, _, evF_pc hG OrcOK.nil mix enter116 (L := [(3, l116)]) (pol := pol116) (O := []) ?_ ?_, hr⟩
  · refine LpsOK.of (l := [b116]) (by kernel_rfl) fun b hb live sp hlv hsp => ?_
    simp at hb; subst hb
    have e1 : assoc (firstReg b116) pol116.live = some [0, 3, 6, 7] := by kernel_rfl
    have e2 : Lps.look (firstReg b116) [(3, l116)] = some l116 := by kernel_rfl
    rw [e1] at hlv; rw [e2] at hsp
    cases hlv; cases hsp
    exact loop116 hG
  · rw [e116, Tr.run_t (by simp [hc])]; rfl
end Go.Proofs.YtejfdhcigkgbmaaDoor.PE
namespace Go.Proofs.YtejfdhcigkgbmaaDoor.PE
open Go
set_option maxRecDepth 100000
variable {G : World → (Nat → Prop) → Prop} (hG : GOk G)
/-! nat.trim -/
noncomputable def b114 : Code := (loopsOf (bodyC Tryd.f114)).getD 0 .skip
def pol114 : Pol := { live := [(1, [0])] }
theorem enter114 : Enters Tryd.prog 114 Tryd.f114 (bodyC Tryd.f114) := ⟨Tryd.func114, by kernel_rfl, rfl⟩
theorem r114 (a : ByteArray) : evRound Tryd.prog [] [] pol114 Tryd.f114.ntmps 0 [0] b114 ⟨[.s a], []⟩ =
  Tr.br (decide ((0 : Int) < (↑a.size : Int)))
    (Tr.br (decide ((0 : Int) ≤ (0 : Int)) && decide ((0 : Int) < (↑a.size : Int)))
      (Tr.br (decide ((↑(a.data.toList.getD (Int.toNat (0 : Int)) (0 : UInt8)).toNat : Int) = (0 : Int)))
        (Tr.br (decide ((0 : Int) ≤ (1 : Int)) && decide ((1 : Int) ≤ (↑a.size : Int)))
          (Tr.ok (Res.out Exit.normal { t := [PV.s (a.extract (Int.toNat (1 : Int)) a.size)], h := [] }))
          (Tr.no (3002)))
        (Tr.ok (Res.out (Exit.exit (0)) { t := [PV.s a], h := [] })))
      (Tr.no (2003)))
    (Tr.ok (Res.out (Exit.exit (0)) { t := [PV.s a], h := [] })) := by kernel_rfl
def l114 : LSpec := fun ls K => match ls with
  | ⟨[.s a], []⟩ => K (.exit 0) ⟨[.s (nb (bv a.data.toList))], []⟩
  | _ => .no 1
theorem e114 (a : ByteArray) : evF Tryd.prog [] [(1, l114)] pol114 Tryd.f114 [.s a] [] retK =
  Tr.ok (Res.ret (PV.s (nb (bv a.data.toList))) []) := by kernel_rfl
include hG in
theorem goes114 : ∀ (l : List UInt8), Goes (Rnd Tryd.prog G Tryd.f114.ntmps 0 [0] b114) ⟨[.s (bs l)], []⟩ (.exit 0) ⟨[.s (nb (bv l))], []⟩
  | [] => by
    refine .last _ _ _ (round_ok hG OrcOK.nil mix (L := []) (pol := pol114) (O := []) (LpsOK.none (by kernel_rfl)) (Nat.zero_le _) ?_) (by simp)
    rw [r114, Tr.run_f (by rw [bs_size]; rfl)]; rfl
  | b :: l => by
    have hsz : (bs (b :: l)).size = l.length + 1 := by rw [bs_size]; rfl
    have h1 : decide ((0 : Int) < ((bs (b :: l)).size : Int)) = true := decide_eq_true (by omega)
    by_cases hb : b = 0
    · subst hb
      refine .more _ ⟨[.s (bs l)], []⟩ _ _ (round_ok hG OrcOK.nil mix (L := []) (pol := pol114) (O := []) (LpsOK.none (by kernel_rfl)) (Nat.zero_le _) ?_) ?_
      · rw [r114, Tr.run_t h1, Tr.run_t (by rw [h1]; rfl), Tr.run_t (by rw [bs_data]; rfl), Tr.run_t (by rw [decide_eq_true (show (0 : Int) ≤ 1 by omega), decide_eq_true (by omega)]; rfl), Tr.run_ok, hsz, bs_extract]
        have : ((0 :: l).take (l.length + 1)).drop (Int.toNat 1) = l := by
          rw [List.take_of_length_le (by simp)]; rfl
        rw [this]
      · rw [bv_zero_cons]; exact goes114 l
    · refine .last _ _ _ (round_ok hG OrcOK.nil mix (L := []) (pol := pol114) (O := []) (LpsOK.none (by kernel_rfl)) (Nat.zero_le _) ?_) (by simp)
      have hb2 : b.toNat ≠ 0 := fun h => hb (UInt8.toNat_inj.1 (by rw [h]; rfl))
      have h2 : decide ((((bs (b :: l)).data.toList.getD (Int.toNat 0) 0).toNat : Int) = 0) = false := decide_eq_false (by rw [bs_data]; show ¬ ((b.toNat : Int) = 0); omega)
      rw [r114, Tr.run_t h1, Tr.run_t (by rw [h1]; rfl), Tr.run_f h2, Tr.run_ok, nb_bs, nbl_bv]
      have hb3 : (b == 0) = false := by simpa using hb
      have : (b :: l).dropWhile (· == 0) = b :: l := by simp [List.dropWhile, hb3]
      rw [this]
def s114 : Spec := fun args hs K => match args, hs with
  | [.s a], [] => K (.s (nb (bv a.data.toList))) []
  | _, _ => .no 1
include hG in
theorem ok114 : SpecOK Tryd.prog G 114 s114 := by
  intro args hs K x h
  unfold s114 at h
  split at h
  case h_2 => cases h
  rename_i a
  refine ⟨_, _, evF_pc hG OrcOK.nil mix enter114 (L := [(1, l114)]) (pol := pol114) (O := []) (lps1 (b := b114) (live := [0]) (sp := l114) (by kernel_rfl) (by kernel_rfl) (by kernel_rfl) ?_) (by rw [e114]; rfl), h⟩
  intro ls K x hm h
  unfold l114 at h
  split at h
  case h_2 => cases h
  rename_i a
  refine ⟨_, _, goes_ok (goes114 hG a.data.toList), ?_⟩
  exact h
end Go.Proofs.YtejfdhcigkgbmaaDoor.PE
