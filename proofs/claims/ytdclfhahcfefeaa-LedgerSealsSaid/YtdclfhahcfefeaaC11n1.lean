import Derived.Test.YtdclfhahcfefeaaC11n0
namespace Go.Proofs.Ytdclfhahcfefeaa.Q
set_option linter.unusedVariables false
set_option linter.unusedSimpArgs false
set_option maxRecDepth 100000

/-! ### Ledgers -/

abbrev Links := List ledger_link
abbrev zB := z_api_Block
def lnk (b : api_Block) : ledger_link := ⟨b, digB (headB b)⟩
def linksB (L : List api_Block) : Links := L.map lnk
theorem links_len (L : List api_Block) : (linksB L).length = L.length := List.length_map ..
def hdL (d : List UInt8) (l : Links) : List UInt8 := if l.length = 0 then d else (l.getD (l.length - 1) z_ledger_link).f_digest
def appE (h : Int) (d : List UInt8) (l : Links) (b : api_Block) : Int := if chkB b = 0 then (if b.f_Height - 1 = h + ((l.length : Nat) : Int) then (if b.f_Prev = hdL d l then 0 else 101) else 100) else chkB b
def appL (h : Int) (d : List UInt8) (l : Links) (b : api_Block) : Links := if appE h d l b = 0 then l ++ [lnk b] else l
def inL (h : Int) (n : Nat) (x : Int) : Prop := h < x ∧ x ≤ h + ((n : Nat) : Int)
instance (h : Int) (n : Nat) (x : Int) : Decidable (inL h n x) := inferInstanceAs (Decidable (_ ∧ _))
def blkB (h : Int) (l : Links) (x : Int) : api_Block := if inL h l.length x then (l.getD (x - h - 1).toNat z_ledger_link).f_block else z_api_Block
def blkE (h : Int) (n : Nat) (x : Int) : Int := if inL h n x then 0 else 4
def cutE (h : Int) (n : Nat) (x : Int) : Int := if x < h ∨ x > h + ((n : Nat) : Int) then 2 else 0
def cutH (h : Int) (l : Links) (x : Int) : Int := if cutE h l.length x = 0 then x else h
def cutD (h : Int) (d : List UInt8) (l : Links) (x : Int) : List UInt8 := if cutE h l.length x = 0 ∧ x - h > 0 then (l.getD (x - h - 1).toNat z_ledger_link).f_digest else d
def cutL (h : Int) (l : Links) (x : Int) : Links := if cutE h l.length x = 0 then l.drop (x - h).toNat else l
theorem set_same {α : Type} {z : α} {l : List α} {k : Nat} (hk : k < l.length) : l.set k (l.getD k z) = l := by
  rw [List.getD_eq_getElem?_getD, List.getElem?_eq_getElem hk]
  exact List.set_getElem_self hk
def fewLk (l : Links) : Prop := ∀ x, x ∈ l → fewB x.f_block
instance (l : Links) : Decidable (fewLk l) := inferInstanceAs (Decidable (∀ x, x ∈ l → fewB x.f_block))
theorem fewLk_get {l : Links} (hw : fewLk l) (k : Nat) : fewB (l.getD k z_ledger_link).f_block := all_getD (p := fun (x : ledger_link) => fewB x.f_block) hw (by decide) k
section
variable {h : Int} {d : List UInt8} {l : Links} {b : api_Block}
theorem app_chk (hc : chkB b ≠ 0) : appE h d l b = chkB b ∧ appL h d l b = l := by
  have e : appE h d l b = chkB b := if_neg hc
  exact ⟨e, if_neg (by rw [e]; exact hc)⟩
theorem app_hgt (hc : ¬ chkB b ≠ 0) (hh : b.f_Height - 1 ≠ h + ((l.length : Nat) : Int)) : appE h d l b = 100 ∧ appL h d l b = l := by
  have e : appE h d l b = 100 := by rw [appE, if_pos (Classical.not_not.1 hc), if_neg hh]
  exact ⟨e, if_neg (by rw [e]; decide)⟩
theorem app_prv (hc : ¬ chkB b ≠ 0) (hh : ¬ b.f_Height - 1 ≠ h + ((l.length : Nat) : Int)) (hp : b.f_Prev ≠ hdL d l) : appE h d l b = 101 ∧ appL h d l b = l := by
  have e : appE h d l b = 101 := by rw [appE, if_pos (Classical.not_not.1 hc), if_pos (Classical.not_not.1 hh), if_neg hp]
  exact ⟨e, if_neg (by rw [e]; decide)⟩
theorem app_ok (hc : ¬ chkB b ≠ 0) (hh : ¬ b.f_Height - 1 ≠ h + ((l.length : Nat) : Int)) (hp : ¬ b.f_Prev ≠ hdL d l) : appE h d l b = 0 ∧ appL h d l b = l ++ [lnk b] := by
  have e : appE h d l b = 0 := by rw [appE, if_pos (Classical.not_not.1 hc), if_pos (Classical.not_not.1 hh), if_pos (Classical.not_not.1 hp)]
  exact ⟨e, if_pos e⟩
theorem cut_no {x : Int} (hx : x < h ∨ x > h + ((l.length : Nat) : Int)) : cutE h l.length x = 2 ∧ cutH h l x = h ∧ cutD h d l x = d ∧ cutL h l x = l := by
  have e : cutE h l.length x = 2 := if_pos hx
  exact ⟨e, if_neg (by rw [e]; decide), if_neg (fun q => by rw [e] at q; exact absurd q.1 (by decide)), if_neg (by rw [e]; decide)⟩
theorem cut_0 {x : Int} (hx : ¬ (x < h ∨ x > h + ((l.length : Nat) : Int))) (h0 : ¬ x - h > 0) : cutE h l.length x = 0 ∧ cutH h l x = h ∧ cutD h d l x = d ∧ cutL h l x = l := by
  have e : cutE h l.length x = 0 := if_neg hx
  refine ⟨e, (if_pos e).trans (by omega), if_neg (fun q => h0 q.2), (if_pos e).trans (by rw [show (x - h).toNat = 0 by omega]; rfl)⟩
theorem cut_1 {x : Int} (hx : ¬ (x < h ∨ x > h + ((l.length : Nat) : Int))) (h0 : x - h > 0) : cutE h l.length x = 0 ∧ cutH h l x = x ∧ cutD h d l x = (l.getD (x - h - 1).toNat z_ledger_link).f_digest ∧ cutL h l x = l.drop (x - h).toNat := by
  have e : cutE h l.length x = 0 := if_neg hx
  exact ⟨e, if_pos e, if_pos ⟨e, h0⟩, if_pos e⟩
end

/-! ### The document's -/

def fewLB (L : List api_Block) : Prop := ∀ b, b ∈ L → fewB b
instance (L : List api_Block) : Decidable (fewLB L) := inferInstanceAs (Decidable (∀ b, b ∈ L → fewB b))
theorem fewLB_get {L : List api_Block} (hw : fewLB L) (k : Nat) : fewB (L.getD k z_api_Block) := all_getD (p := fun (x : api_Block) => fewB x) hw (by decide) k
theorem links_few {L : List api_Block} (hw : fewLB L) : fewLk (linksB L) := fun x hx => by
  obtain ⟨b, hb, rfl⟩ := List.mem_map.1 hx
  exact hw b hb
def atB (d : List UInt8) (L : List api_Block) (n : Nat) : List UInt8 := if n = 0 then d else digB (headB (L.getD (n - 1) z_api_Block))
theorem links_get {L : List api_Block} {k : Nat} (hk : k < L.length) : (linksB L).getD k z_ledger_link = lnk (L.getD k z_api_Block) := by
  rw [List.getD_eq_getElem?_getD, List.getD_eq_getElem?_getD, linksB, List.getElem?_map, List.getElem?_eq_getElem hk]
  rfl
theorem hd_links (d : List UInt8) (L : List api_Block) : hdL d (linksB L) = atB d L L.length := by
  unfold hdL atB
  rw [links_len]
  by_cases h : L.length = 0
  · rw [if_pos h, if_pos h]
  · rw [if_neg h, if_neg h, links_get (by omega)]
    rfl
def rblk (h : Int) (L : List api_Block) (x : Int) : api_Block := if inL h L.length x then L.getD (x - h - 1).toNat z_api_Block else z_api_Block
theorem blk_links (h : Int) (L : List api_Block) (x : Int) : blkB h (linksB L) x = rblk h L x := by
  unfold blkB rblk
  rw [links_len]
  by_cases hi : inL h L.length x
  · have := hi.1; have := hi.2
    rw [if_pos hi, if_pos hi, links_get (by omega)]
    rfl
  · rw [if_neg hi, if_neg hi]
def rappE (h : Int) (d : List UInt8) (L : List api_Block) (b : api_Block) : Int := appE h d (linksB L) b
def rappL (h : Int) (d : List UInt8) (L : List api_Block) (b : api_Block) : List api_Block := if rappE h d L b = 0 then L ++ [b] else L
theorem app_links (h : Int) (d : List UInt8) (L : List api_Block) (b : api_Block) : appL h d (linksB L) b = linksB (rappL h d L b) := by
  unfold appL rappL rappE
  by_cases e : appE h d (linksB L) b = 0
  · rw [if_pos e, if_pos e]; simp [linksB]
  · rw [if_neg e, if_neg e]
def rcutL (h : Int) (L : List api_Block) (x : Int) : List api_Block := if cutE h L.length x = 0 then L.drop (x - h).toNat else L
def rcutD (h : Int) (d : List UInt8) (L : List api_Block) (x : Int) : List UInt8 := if cutE h L.length x = 0 then atB d L (x - h).toNat else d
def rcutH (h : Int) (L : List api_Block) (x : Int) : Int := if cutE h L.length x = 0 then x else h
theorem cut_links (h : Int) (d : List UInt8) (L : List api_Block) (x : Int) : cutL h (linksB L) x = linksB (rcutL h L x) ∧ cutH h (linksB L) x = rcutH h L x ∧ cutD h d (linksB L) x = rcutD h d L x := by
  unfold cutL rcutL cutH rcutH cutD rcutD
  rw [links_len]
  by_cases e : cutE h L.length x = 0
  · rw [if_pos e, if_pos e, if_pos e, if_pos e]
    refine ⟨by simp [linksB, List.map_drop], rfl, ?_⟩
    have hx : ¬ (x < h ∨ x > h + ((L.length : Nat) : Int)) := fun q => by rw [cutE, if_pos q] at e; exact absurd e (by decide)
    unfold atB
    by_cases h0 : x - h > 0
    · rw [if_pos ⟨e, h0⟩, if_neg (by omega), links_get (by omega), show (x - h - 1).toNat = (x - h).toNat - 1 by omega]
      rfl
    · rw [if_neg (fun q => h0 q.2), if_pos (by omega)]
  · rw [if_neg e, if_neg e, if_neg e, if_neg e, if_neg (fun q => e q.1)]
    exact ⟨rfl, rfl, rfl⟩
section
variable {h : Int} {d : List UInt8} {L : List api_Block} {b : api_Block}
theorem rapp_chk (hc : chkB b ≠ 0) : rappE h d L b = chkB b ∧ rappL h d L b = L := by
  have e : rappE h d L b = chkB b := (app_chk hc).1
  exact ⟨e, if_neg (by rw [e]; exact hc)⟩
theorem rapp_hgt (hc : ¬ chkB b ≠ 0) (hh : b.f_Height ≠ h + ((L.length : Nat) : Int) + 1) : rappE h d L b = 100 ∧ rappL h d L b = L := by
  have e : rappE h d L b = 100 := (app_hgt (l := linksB L) hc (by rw [links_len]; omega)).1
  exact ⟨e, if_neg (by rw [e]; decide)⟩
theorem rapp_prv (hc : ¬ chkB b ≠ 0) (hh : ¬ b.f_Height ≠ h + ((L.length : Nat) : Int) + 1) (hp : b.f_Prev ≠ atB d L L.length) : rappE h d L b = 101 ∧ rappL h d L b = L := by
  have e : rappE h d L b = 101 := (app_prv (l := linksB L) hc (by rw [links_len]; omega) (by rw [hd_links]; exact hp)).1
  exact ⟨e, if_neg (by rw [e]; decide)⟩
theorem rapp_ok (hc : ¬ chkB b ≠ 0) (hh : ¬ b.f_Height ≠ h + ((L.length : Nat) : Int) + 1) (hp : ¬ b.f_Prev ≠ atB d L L.length) : rappE h d L b = 0 ∧ rappL h d L b = L ++ [b] := by
  have e : rappE h d L b = 0 := (app_ok (l := linksB L) hc (by rw [links_len]; omega) (by rw [hd_links]; exact hp)).1
  exact ⟨e, if_pos e⟩
theorem rcut_no {x : Int} (hx : x < h ∨ x > h + ((L.length : Nat) : Int)) : cutE h L.length x = 2 ∧ rcutH h L x = h ∧ rcutD h d L x = d ∧ rcutL h L x = L := by
  have e : cutE h L.length x = 2 := if_pos hx
  exact ⟨e, if_neg (by rw [e]; decide), if_neg (by rw [e]; decide), if_neg (by rw [e]; decide)⟩
theorem rcut_yes {x : Int} (hx : ¬ (x < h ∨ x > h + ((L.length : Nat) : Int))) : cutE h L.length x = 0 ∧ rcutH h L x = x ∧ rcutD h d L x = atB d L (x - h).toNat ∧ rcutL h L x = L.drop (x - h).toNat := by
  have e : cutE h L.length x = 0 := if_neg hx
  exact ⟨e, if_pos e, if_pos e, if_pos e⟩
end

/-! ### Acts -/

abbrev Act' := quaestorlaw11_Act
def actB (h : Int) (d : List UInt8) (L : List api_Block) (x : Act') : api_Block := if x.f_Right = true then ⟨h + ((L.length : Nat) : Int) + 1, atB d L L.length, x.f_Block.f_Requests, x.f_Block.f_Results⟩ else x.f_Block
def stH (h : Int) (L : List api_Block) (x : Act') : Int := if x.f_Cut = true then rcutH h L x.f_H else h
def stD (h : Int) (d : List UInt8) (L : List api_Block) (x : Act') : List UInt8 := if x.f_Cut = true then rcutD h d L x.f_H else d
def stL (h : Int) (d : List UInt8) (L : List api_Block) (x : Act') : List api_Block := if x.f_Cut = true then rcutL h L x.f_H else rappL h d L (actB h d L x)
theorem act_few {h : Int} {d : List UInt8} {L : List api_Block} {x : Act'} (hf : fewB x.f_Block) (ha : (atB d L L.length).length ≤ 10000000) : fewB ⟨h + ((L.length : Nat) : Int) + 1, atB d L L.length, x.f_Block.f_Requests, x.f_Block.f_Results⟩ := ⟨hf.1, hf.2.1, ha⟩
theorem act_r {h : Int} {d : List UInt8} {L : List api_Block} {x : Act'} (hr : x.f_Right = true) : actB h d L x = ⟨h + ((L.length : Nat) : Int) + 1, atB d L L.length, x.f_Block.f_Requests, x.f_Block.f_Results⟩ := if_pos hr
theorem act_n {h : Int} {d : List UInt8} {L : List api_Block} {x : Act'} (hr : x.f_Right = false) : actB h d L x = x.f_Block := if_neg (by rw [hr]; decide)
theorem st_cut {h : Int} {d : List UInt8} {L : List api_Block} {x : Act'} (hc : x.f_Cut = true) : stH h L x = cutH h (linksB L) x.f_H ∧ stD h d L x = cutD h d (linksB L) x.f_H ∧ linksB (stL h d L x) = cutL h (linksB L) x.f_H ∧ stH h L x = rcutH h L x.f_H ∧ stD h d L x = rcutD h d L x.f_H ∧ stL h d L x = rcutL h L x.f_H := by
  obtain ⟨c1, c2, c3⟩ := cut_links h d L x.f_H
  have e1 : stH h L x = rcutH h L x.f_H := if_pos hc
  have e2 : stD h d L x = rcutD h d L x.f_H := if_pos hc
  have e3 : stL h d L x = rcutL h L x.f_H := if_pos hc
  exact ⟨e1.trans c2.symm, e2.trans c3.symm, by rw [e3, c1], e1, e2, e3⟩
theorem st_app {h : Int} {d : List UInt8} {L : List api_Block} {x : Act'} {b : api_Block} (hc : x.f_Cut = false) (hb : actB h d L x = b) : stH h L x = h ∧ stD h d L x = d ∧ linksB (stL h d L x) = appL h d (linksB L) b ∧ stL h d L x = rappL h d L b := by
  have hn : ¬ x.f_Cut = true := by rw [hc]; decide
  have e3 : stL h d L x = rappL h d L b := by rw [← hb]; exact if_neg hn
  exact ⟨if_neg hn, if_neg hn, by rw [e3, app_links], e3⟩
end Go.Proofs.Ytdclfhahcfefeaa.Q
namespace Go.Proofs.Ytdclfhahcfefeaa.Q
open Go Go.RowKit
set_option linter.unusedVariables false
set_option linter.unusedSimpArgs false
set_option maxRecDepth 100000
set_option maxHeartbeats 4000000
-- quaestor/quaestorref01.Same
theorem ref01_Same (ta : Bool) (na : Bool) (tb : Bool) (nb : Bool) (a : List UInt8) (b : List UInt8) : Holds Try.prog 29 ⟨[slV ta na kU8 a, slV tb nb kU8 b], [], dv (.bool (decide (a = b))), []⟩ := by
  refine Holds.of Try.func29 rfl (N := 10) Try.ntmps29 rfl fun w0 B0 S0 U0 => ?_
  show T _ (mkBase 10 0 w0 S0 U0 B0) ⟨[slV ta na kU8 a, slV tb nb kU8 b], []⟩ _ _
  refine T.seq ?_
  refine xR [] (by kernel_rfl) (by kernel_rfl) ?_
  refine nT ?_
  refine T.seq ?_
  refine xR [hR 1 rfl rfl (q_strOf () a (ys := (.d (dsl ta na kU8 a))) (rhs := []) Try.underlying58 Try.underlying5 Try.underlying9 (src_sl ta na kU8 a) (lt_of rfl) trivial),
    hR 3 rfl rfl (q_strOf () b (ys := (.d (dsl tb nb kU8 b))) (rhs := []) Try.underlying58 Try.underlying5 Try.underlying9 (src_sl tb nb kU8 b) (lt_of rfl) trivial)] (by kernel_rfl) (by kernel_rfl) ?_
  refine nT ?_
  refine T.ret ?_
  exact tE (.inl rfl) [.t 4 (.one (.d (.val (.bool (decide (a = b))))))] ⟨⟨rfl, by kernel_rfl⟩, trivial⟩ [] rfl rfl rfl rfl rfl rfl trivial
end Go.Proofs.Ytdclfhahcfefeaa.Q
namespace Go.Proofs.Ytdclfhahcfefeaa.Q
open Go Go.RowKit
set_option linter.unusedVariables false
set_option linter.unusedSimpArgs false
set_option maxRecDepth 100000
set_option maxHeartbeats 4000000
theorem iat_5 : Try.prog.info? 5 = some Try.t5 := by kernel_rfl
theorem zero_5 : Zero Try.prog 5 [.int .u8 0] := ⟨_, _, iat_5, rfl, rfl⟩
theorem elem_58 : Elem Try.prog 58 5 1 1 := ⟨Try.underlying58, _, _, iat_5, rfl, rfl, rfl, rfl, by decide⟩
-- slices.Clone[[]byte,byte]
theorem clone_u8 (ta : Bool) (na : Bool) (a : List UInt8) (hp : a.length ≤ 140737488355328) : Holds Try.prog 67 ⟨[slV ta na kU8 a], [], ownV 0 kU8 0 a.length, [.live (arrK 5 kU8 a)]⟩ := by
  refine Holds.of Try.func67 rfl (N := 8) Try.ntmps67 rfl fun w0 B0 S0 U0 => ?_
  show T _ (mkBase 8 0 w0 S0 U0 B0) ⟨[slV ta na kU8 a], []⟩ _ _
  cases na
  · refine T.nilOr (k := 0) rfl (fun h0 => ?_) ?_
    · have h0 := List.eq_nil_of_length_eq_zero h0
      subst h0
      show T _ _ ⟨[dv (.slice none 0 0)], []⟩ _ _
      refine T.seq ?_
      refine xR [] (by kernel_rfl) (by kernel_rfl) ?_
      refine nT ?_
      refine T.seq ?_
      refine T.seq ?_
      refine xR [hR 1 rfl rfl (r_bin (u1 := .slice none 0 0) (u2 := .slice none 0 0) (v := .bool true) (b_eqlNilS Try.underlying58) (lt_of rfl) ⟨rfl, trivial⟩)] (by kernel_rfl) (by kernel_rfl) ?_
      refine nT ?_
      refine T.condT (b := true) (by kernel_rfl) rfl ?_
      refine T.seq ?_
      refine xR [] (by kernel_rfl) (by kernel_rfl) ?_
      refine nT ?_
      refine T.ret ?_
      refine rT ?_
      refine Ends.turn (s' := ⟨[dv (.slice none 0 0), aa, dv (.slice none 0 0), aa, dv (.bool true)], []⟩) (fun _ _ hG => Gs.norm (by kernel_rfl) hG) ?_
      refine Ends.turn (s' := ⟨[dv (.slice none 0 0), aa, ownV 0 kU8 0 0, aa, dv (.bool true)], [.live (arrK 5 kU8 ([] : List UInt8))]⟩) (fun _ _ hG => Gs.absent 0 2 5 kU8 rfl rfl hG) ?_
      exact tE (.inl rfl) [.t 2 (.one (.own 0 kU8.sz 0 0))] ⟨⟨rfl, by kernel_rfl⟩, trivial⟩ [0] (by have e1 : (([] : List UInt8).length : Nat) = 0 := (by rfl); have hE := congrArg (fun (q1 : Nat) => (ownV 0 kU8 0 q1 : AV)) e1; exact hE) rfl rfl rfl rfl rfl ⟨⟨rfl, (by kernel_rfl)⟩, trivial⟩
    · show T _ _ ⟨[slV ta true kU8 a], []⟩ _ _
      refine T.seq ?_
      refine xR [] (by kernel_rfl) (by kernel_rfl) ?_
      refine nT ?_
      refine T.seq ?_
      refine T.seq ?_
      refine xR [hR 1 rfl rfl (r_eqNil (s := .d (dsl ta true kU8 a)) Try.underlying58 (.inl rfl) (lt_of rfl) ⟨rfl, trivial⟩)] (by kernel_rfl) (by kernel_rfl) ?_
      refine nT ?_
      refine T.condF (b := false) (by kernel_rfl) rfl ?_
      refine T.skip ?_
      refine nT ?_
      refine T.seq ?_
      refine xR [hR 0 rfl rfl (q_buildSlice 0 5 kU8 kU8_ok ([] : List UInt8) [] (cs := []) Try.underlying58 iat_5 rfl zero_5 rfl rfl rfl (Nat.le_of_ble_eq_true rfl) part_ok rfl trivial (lt_of rfl) trivial),
        hR 2 rfl rfl (q_appendO 0 1 5 1 kU8 kU8_ok ([] : List UInt8) a a ([] : List UInt8).length (sy := (.d (dsl ta true kU8 a))) (rhs := []) elem_58 (by omega) (src_sl ta true kU8 a) (by simp) (by (simp [maxLen, -List.getD_eq_getElem?_getD] <;> omega)) (by (simp [maxLen, -List.getD_eq_getElem?_getD] <;> omega)) (lt_of rfl) trivial)] (by kernel_rfl) (by kernel_rfl) ?_
      refine nT ?_
      refine T.ret ?_
      exact tE (.inl rfl) [.t 2 (.one (.own 1 kU8.sz 0 a.length))] ⟨⟨rfl, by kernel_rfl⟩, trivial⟩ [1] rfl rfl rfl rfl rfl rfl ⟨⟨rfl, (by kernel_rfl)⟩, trivial⟩
  · refine T.seq ?_
    refine xR [] (by kernel_rfl) (by kernel_rfl) ?_
    refine nT ?_
    refine T.seq ?_
    refine T.seq ?_
    refine xR [hR 1 rfl rfl (r_eqNil (s := .d (dsl ta true kU8 a)) Try.underlying58 (.inl rfl) (lt_of rfl) ⟨rfl, trivial⟩)] (by kernel_rfl) (by kernel_rfl) ?_
    refine nT ?_
    refine T.condF (b := false) (by kernel_rfl) rfl ?_
    refine T.skip ?_
    refine nT ?_
    refine T.seq ?_
    refine xR [hR 0 rfl rfl (q_buildSlice 0 5 kU8 kU8_ok ([] : List UInt8) [] (cs := []) Try.underlying58 iat_5 rfl zero_5 rfl rfl rfl (Nat.le_of_ble_eq_true rfl) part_ok rfl trivial (lt_of rfl) trivial),
      hR 2 rfl rfl (q_appendO 0 1 5 1 kU8 kU8_ok ([] : List UInt8) a a ([] : List UInt8).length (sy := (.d (dsl ta true kU8 a))) (rhs := []) elem_58 (by omega) (src_sl ta true kU8 a) (by simp) (by (simp [maxLen, -List.getD_eq_getElem?_getD] <;> omega)) (by (simp [maxLen, -List.getD_eq_getElem?_getD] <;> omega)) (lt_of rfl) trivial)] (by kernel_rfl) (by kernel_rfl) ?_
    refine nT ?_
    refine T.ret ?_
    exact tE (.inl rfl) [.t 2 (.one (.own 1 kU8.sz 0 a.length))] ⟨⟨rfl, by kernel_rfl⟩, trivial⟩ [1] rfl rfl rfl rfl rfl rfl ⟨⟨rfl, (by kernel_rfl)⟩, trivial⟩
end Go.Proofs.Ytdclfhahcfefeaa.Q
namespace Go.Proofs.Ytdclfhahcfefeaa.Q
open Go Go.RowKit
set_option linter.unusedVariables false
set_option linter.unusedSimpArgs false
set_option maxRecDepth 100000
set_option maxHeartbeats 4000000
-- slices.Clip[[]byte,byte]
theorem clip_u8 (tb : Bool) (nb : Bool) (b : List UInt8) : Holds Try.prog 87 ⟨[slV tb nb kU8 b], [], clV tb nb kU8 b, []⟩ := by
  refine Holds.of Try.func87 rfl (N := 9) Try.ntmps87 rfl fun w0 B0 S0 U0 => ?_
  show T _ (mkBase 9 0 w0 S0 U0 B0) ⟨[slV tb nb kU8 b], []⟩ _ _
  refine T.seq ?_
  refine xR [] (by kernel_rfl) (by kernel_rfl) ?_
  refine nT ?_
  refine T.seq ?_
  refine xR [hR 5 rfl rfl (q_clip tb nb kU8 b (p := ((b.length : Nat) : Int)) (q := ((b.length : Nat) : Int)) Try.underlying58 iat_5 rfl (by omega) (by omega) (lt_of rfl) trivial)] (by kernel_rfl) (by kernel_rfl) ?_
  refine nT ?_
  refine T.ret ?_
  exact tE (.inl rfl) [.t 2 (.one (.cl tb nb kU8.sz b.length (elOf kU8 b)))] ⟨⟨rfl, by kernel_rfl⟩, trivial⟩ [] rfl rfl rfl rfl rfl rfl trivial
end Go.Proofs.Ytdclfhahcfefeaa.Q
namespace Go.Proofs.Ytdclfhahcfefeaa.Q
open Go Go.RowKit
set_option linter.unusedVariables false
set_option linter.unusedSimpArgs false
set_option maxRecDepth 100000
set_option maxHeartbeats 4000000
-- quaestor/wire.spell
theorem wire_spell (tb : Bool) (nb : Bool) (b : List UInt8) (n : Nat) (m : Nat) (hb : b.length ≤ 140737488355000) (hn : n < 18446744073709551616) (hm : m ≤ 7) : Holds Try.prog 72 ⟨[slV tb nb kU8 b, dv (.int .u64 ((n : Nat) : Int)), dv (.int .i64 ((m + 1 : Nat) : Int))], [], ownV 0 kU8 0 (b ++ (spellB n (m + 1))).length, [.live (arrK 5 kU8 (b ++ (spellB n (m + 1))))]⟩ := by
  refine Holds.of Try.func72 rfl (N := 22) Try.ntmps72 rfl fun w0 B0 S0 U0 => ?_
  show T _ (mkBase 22 0 w0 S0 U0 B0) ⟨[slV tb nb kU8 b, dv (.int .u64 ((n : Nat) : Int)), dv (.int .i64 ((m + 1 : Nat) : Int))], []⟩ _ _
  refine T.seq ?_
  refine xR [] (by kernel_rfl) (by kernel_rfl) ?_
  refine nT ?_
  refine T.seq ?_
  refine xR [hR 1 rfl rfl (r_call (clip_u8 tb nb b ) Try.func87 rfl (by decide) [] [] (l := [(.tmp 7, slV tb nb kU8 b)]) [] rfl 0 0 rfl rfl rfl rfl rfl rfl rfl rfl rfl ⟨.inl ⟨rfl, rfl⟩, trivial⟩ rfl (fun b hb => by cases hb) (.inl rfl) (lt_of rfl) trivial)] (by kernel_rfl) (by kernel_rfl) ?_
  refine nT ?_
  refine T.seq ?_
  refine T.block ?_
  refine T.ofTL ?_
  refine TL.peel ?_
  refine T.seq ?_
  refine T.seq ?_
  refine xR [] (by kernel_rfl) (by kernel_rfl) ?_
  refine nT ?_
  by_cases hq1 : ((m + 1 : Nat) : Int) > 0
  · refine T.condT (by kernel_rfl) (decide_eq_true hq1) ?_
    refine T.skip ?_
    refine nT ?_
    refine T.block ?_
    refine T.seq ?_
    refine xR [hR 1 rfl rfl (r_bin (u1 := .int .i64 ((m + 1 : Nat) : Int)) (u2 := .int .i64 1) (v := .int .i64 ((m : Nat) : Int)) (b_sub (by rw [IntKind.wrap_i64]; omega)) (lt_of rfl) ⟨rfl, trivial⟩)] (by kernel_rfl) (by kernel_rfl) ?_
    refine nT ?_
    refine xR [hR 3 rfl rfl (r_bin (u1 := .int .i64 8) (u2 := .int .i64 ((m : Nat) : Int)) (v := .int .i64 ((8 * m : Nat) : Int)) (b_mul (by rw [IntKind.wrap_i64]; omega)) (lt_of rfl) ⟨rfl, trivial⟩),
      hR 4 rfl rfl (r_bin (u1 := .int .u64 ((n : Nat) : Int)) (u2 := .int .i64 ((8 * m : Nat) : Int)) (v := .int .u64 ((n / 2 ^ (8 * m) : Nat) : Int)) (b_shrN (n := 8 * m) rfl (Nat.le_trans (by omega) (by decide : 64 ≤ _))) (lt_of rfl) trivial),
      hR 5 rfl rfl (r_conv (u := .int .u64 ((n / 2 ^ (8 * m) : Nat) : Int)) (v := .int .u8 (((UInt8.ofNat (n / 2 ^ (8 * m))).toNat : Nat) : Int)) (c_byte Try.underlying113 Try.underlying5) (lt_of rfl) trivial),
      hR 6 rfl rfl (q_buildSlice 0 5 kU8 kU8_ok [(UInt8.ofNat (n / 2 ^ (8 * m)))] [⟨0, .tmp 18, .one (.d (.val (.int .u8 (((UInt8.ofNat (n / 2 ^ (8 * m))).toNat : Nat) : Int)))), 0⟩] (cs := [.d (.val (.int .u8 (((UInt8.ofNat (n / 2 ^ (8 * m))).toNat : Nat) : Int)))]) Try.underlying58 iat_5 rfl zero_5 rfl rfl rfl (Nat.le_of_ble_eq_true rfl) (part_cons rfl rfl (Nat.le_of_ble_eq_true rfl) part_ok) rfl ⟨(.inl rfl), trivial⟩ (lt_of rfl) trivial),
      hR 7 rfl rfl (q_appendC 1 5 1 tb nb kU8 kU8_ok b [(UInt8.ofNat (n / 2 ^ (8 * m)))] (b ++ [(UInt8.ofNat (n / 2 ^ (8 * m)))]) (sy := (.own 0 kU8.sz 0 [(UInt8.ofNat (n / 2 ^ (8 * m)))].length)) (rhs := [(0, .live (arrK 5 kU8 [(UInt8.ofNat (n / 2 ^ (8 * m)))]))]) elem_58 (by (simp [maxLen, -List.getD_eq_getElem?_getD] <;> omega)) (src_own 0 5 kU8 [(UInt8.ofNat (n / 2 ^ (8 * m)))]) rfl (by (simp [maxLen, -List.getD_eq_getElem?_getD] <;> omega)) (by (simp [maxLen, -List.getD_eq_getElem?_getD] <;> omega)) (lt_of rfl) trivial)] (by kernel_rfl) (by kernel_rfl) ?_
    refine nB ?_
    refine nP ?_
    refine TL.loop (ι := Nat × (List UInt8)) (fun (x_ : Nat × (List UInt8)) => ⟨[ownV 0 kU8 0 x_.2.length, dv (.int .u64 ((n : Nat) : Int)), dv (.int .i64 ((x_.1 : Nat) : Int))], [.live (arrK 5 kU8 x_.2)]⟩) (fun (x_ : Nat × (List UInt8)) => (x_.1 ≤ m) ∧ (x_.2 ++ spellB n x_.1 = b ++ spellB n (m + 1))) (fun (x_ : Nat × (List UInt8)) => x_.1) (m, b ++ [UInt8.ofNat (n / 2 ^ (8 * m))]) ⟨(Nat.le_refl _), (by rw [List.append_assoc]; rfl)⟩ (fun _ _ hG => Gs.into2 (s' := ⟨[ownV 0 kU8 0 (b ++ [UInt8.ofNat (n / 2 ^ (8 * m))]).length, dv (.int .u64 ((n : Nat) : Int)), dv (.int .i64 ((m : Nat) : Int))], [.live (arrK 5 kU8 (b ++ [UInt8.ofNat (n / 2 ^ (8 * m))]))]⟩) [1] [true, true, true] (t1 := [ownV 1 kU8 0 (b ++ [UInt8.ofNat (n / 2 ^ (8 * m))]).length, dv (.int .u64 ((n : Nat) : Int)), dv (.int .i64 ((m : Nat) : Int))]) (t2 := [ownV 1 kU8 0 (b ++ [(UInt8.ofNat (n / 2 ^ (8 * m)))]).length, dv (.int .u64 ((n : Nat) : Int)), dv (.int .i64 ((m : Nat) : Int))]) (h1 := [.live (arrK 5 kU8 (b ++ [UInt8.ofNat (n / 2 ^ (8 * m))]))]) (h2 := [.live (arrK 5 kU8 (b ++ [(UInt8.ofNat (n / 2 ^ (8 * m)))]))]) (by have e1 : ((b ++ [UInt8.ofNat (n / 2 ^ (8 * m))]).length : Nat) = (b ++ [(UInt8.ofNat (n / 2 ^ (8 * m)))]).length := (by rfl); have hE := congrArg (fun (q1 : Nat) => ([ownV 1 kU8 0 q1, dv (.int .u64 ((n : Nat) : Int)), dv (.int .i64 ((m : Nat) : Int))] : List AV)) e1; exact hE) (by have e1 : (b ++ [UInt8.ofNat (n / 2 ^ (8 * m))] : List UInt8) = b ++ [(UInt8.ofNat (n / 2 ^ (8 * m)))] := (by rfl); have hE := congrArg (fun (q1 : List UInt8) => ([.live (arrK 5 kU8 q1)] : List HS)) e1; exact hE) (by kernel_rfl) (by kernel_rfl) (by kernel_rfl) (by kernel_rfl) (by kernel_rfl) (by kernel_rfl) (by kernel_rfl) (by kernel_rfl) (by kernel_rfl) (by kernel_rfl) (by kernel_rfl) hG) ?_
    rintro ⟨j, acc⟩ ⟨hj, he⟩
    show T _ _ ⟨[ownV 0 kU8 0 acc.length, dv (.int .u64 ((n : Nat) : Int)), dv (.int .i64 ((j : Nat) : Int))], [.live (arrK 5 kU8 acc)]⟩ _ _
    replace hj : j ≤ m := hj
    replace he : acc ++ spellB n j = b ++ spellB n (m + 1) := he
    have hacc := spell_lenE he
    refine T.seq ?_
    refine T.seq ?_
    refine xR [] (by kernel_rfl) (by kernel_rfl) ?_
    refine nT ?_
    by_cases hq2 : ((j : Nat) : Int) > 0
    · refine T.condT (by kernel_rfl) (decide_eq_true hq2) ?_
      refine T.skip ?_
      refine nT ?_
      refine T.block ?_
      refine T.seq ?_
      refine xR [hR 1 rfl rfl (r_bin (u1 := .int .i64 ((j : Nat) : Int)) (u2 := .int .i64 1) (v := .int .i64 ((j - 1 : Nat) : Int)) (b_sub (by rw [IntKind.wrap_i64]; omega)) (lt_of rfl) ⟨rfl, trivial⟩)] (by kernel_rfl) (by kernel_rfl) ?_
      refine nT ?_
      refine xR [hR 3 rfl rfl (r_bin (u1 := .int .i64 8) (u2 := .int .i64 ((j - 1 : Nat) : Int)) (v := .int .i64 ((8 * (j - 1) : Nat) : Int)) (b_mul (by rw [IntKind.wrap_i64]; omega)) (lt_of rfl) ⟨rfl, trivial⟩),
        hR 4 rfl rfl (r_bin (u1 := .int .u64 ((n : Nat) : Int)) (u2 := .int .i64 ((8 * (j - 1) : Nat) : Int)) (v := .int .u64 ((n / 2 ^ (8 * (j - 1)) : Nat) : Int)) (b_shrN (n := 8 * (j - 1)) rfl (Nat.le_trans (by omega) (by decide : 64 ≤ _))) (lt_of rfl) trivial),
        hR 5 rfl rfl (r_conv (u := .int .u64 ((n / 2 ^ (8 * (j - 1)) : Nat) : Int)) (v := .int .u8 (((UInt8.ofNat (n / 2 ^ (8 * (j - 1)))).toNat : Nat) : Int)) (c_byte Try.underlying113 Try.underlying5) (lt_of rfl) trivial),
        hR 6 rfl rfl (q_buildSlice 1 5 kU8 kU8_ok [(UInt8.ofNat (n / 2 ^ (8 * (j - 1))))] [⟨0, .tmp 18, .one (.d (.val (.int .u8 (((UInt8.ofNat (n / 2 ^ (8 * (j - 1)))).toNat : Nat) : Int)))), 0⟩] (cs := [.d (.val (.int .u8 (((UInt8.ofNat (n / 2 ^ (8 * (j - 1)))).toNat : Nat) : Int)))]) Try.underlying58 iat_5 rfl zero_5 rfl rfl rfl (Nat.le_of_ble_eq_true rfl) (part_cons rfl rfl (Nat.le_of_ble_eq_true rfl) part_ok) rfl ⟨(.inl rfl), trivial⟩ (lt_of rfl) trivial),
        hR 7 rfl rfl (q_appendO 0 2 5 1 kU8 kU8_ok acc [(UInt8.ofNat (n / 2 ^ (8 * (j - 1))))] (acc ++ [(UInt8.ofNat (n / 2 ^ (8 * (j - 1))))]) acc.length (sy := (.own 1 kU8.sz 0 [(UInt8.ofNat (n / 2 ^ (8 * (j - 1))))].length)) (rhs := [(1, .live (arrK 5 kU8 [(UInt8.ofNat (n / 2 ^ (8 * (j - 1))))]))]) elem_58 (by omega) (src_own 1 5 kU8 [(UInt8.ofNat (n / 2 ^ (8 * (j - 1))))]) (by rw [List.take_length]) (by (simp [maxLen, -List.getD_eq_getElem?_getD] <;> omega)) (by (simp [maxLen, -List.getD_eq_getElem?_getD] <;> omega)) (lt_of rfl) trivial)] (by kernel_rfl) (by kernel_rfl) ?_
      refine nB ?_
      refine nL (j - 1, acc ++ [UInt8.ofNat (n / 2 ^ (8 * (j - 1)))]) ⟨(show (j - 1) ≤ m from (by omega)), (show (acc ++ [UInt8.ofNat (n / 2 ^ (8 * (j - 1)))]) ++ spellB n (j - 1) = b ++ spellB n (m + 1) from (spell_step he (by omega)))⟩ (show ((j - 1) : Nat) < j from (by omega)) (fun _ _ hG => Gs.into2 (s' := ⟨[ownV 0 kU8 0 (acc ++ [UInt8.ofNat (n / 2 ^ (8 * (j - 1)))]).length, dv (.int .u64 ((n : Nat) : Int)), dv (.int .i64 ((j - 1 : Nat) : Int))], [.live (arrK 5 kU8 (acc ++ [UInt8.ofNat (n / 2 ^ (8 * (j - 1)))]))]⟩) [2] [true, true, true] (t1 := [ownV 2 kU8 0 (acc ++ [UInt8.ofNat (n / 2 ^ (8 * (j - 1)))]).length, dv (.int .u64 ((n : Nat) : Int)), dv (.int .i64 ((j - 1 : Nat) : Int))]) (t2 := [ownV 2 kU8 0 (acc ++ [(UInt8.ofNat (n / 2 ^ (8 * (j - 1))))]).length, dv (.int .u64 ((n : Nat) : Int)), dv (.int .i64 ((j - 1 : Nat) : Int))]) (h1 := [.live (arrK 5 kU8 (acc ++ [UInt8.ofNat (n / 2 ^ (8 * (j - 1)))]))]) (h2 := [.live (arrK 5 kU8 (acc ++ [(UInt8.ofNat (n / 2 ^ (8 * (j - 1))))]))]) (by have e1 : ((acc ++ [UInt8.ofNat (n / 2 ^ (8 * (j - 1)))]).length : Nat) = (acc ++ [(UInt8.ofNat (n / 2 ^ (8 * (j - 1))))]).length := (by rfl); have hE := congrArg (fun (q1 : Nat) => ([ownV 2 kU8 0 q1, dv (.int .u64 ((n : Nat) : Int)), dv (.int .i64 ((j - 1 : Nat) : Int))] : List AV)) e1; exact hE) (by have e1 : (acc ++ [UInt8.ofNat (n / 2 ^ (8 * (j - 1)))] : List UInt8) = acc ++ [(UInt8.ofNat (n / 2 ^ (8 * (j - 1))))] := (by rfl); have hE := congrArg (fun (q1 : List UInt8) => ([.live (arrK 5 kU8 q1)] : List HS)) e1; exact hE) (by kernel_rfl) (by kernel_rfl) (by kernel_rfl) (by kernel_rfl) (by kernel_rfl) (by kernel_rfl) (by kernel_rfl) (by kernel_rfl) (by kernel_rfl) (by kernel_rfl) (by kernel_rfl) hG)
    · refine T.condF (by kernel_rfl) (decide_eq_false hq2) ?_
      refine T.exit ?_
      refine xT ?_
      refine xT ?_
      refine xH ?_
      refine nT ?_
      refine T.seq ?_
      refine xR [] (by kernel_rfl) (by kernel_rfl) ?_
      refine nT ?_
      refine T.ret ?_
      exact tE (.inl rfl) [.t 6 (.one (.own 0 kU8.sz 0 acc.length))] ⟨⟨rfl, by kernel_rfl⟩, trivial⟩ [0] (by have e1 : ((b ++ (spellB n (m + 1))).length : Nat) = acc.length := (by (rw [spell_end he (by omega)])); have hE := congrArg (fun (q1 : Nat) => (ownV 0 kU8 0 q1 : AV)) e1; exact hE) rfl rfl rfl rfl rfl ⟨⟨rfl, (by have e1 : (acc : List UInt8) = b ++ (spellB n (m + 1)) := (by (rw [spell_end he (by omega)])); have hE := congrArg (fun (q1 : List UInt8) => (.live (arrK 5 kU8 q1) : HS)) e1; exact Eq.trans (by kernel_rfl) hE)⟩, trivial⟩
  · exact absurd (by omega) hq1
end Go.Proofs.Ytdclfhahcfefeaa.Q
namespace Go.Proofs.Ytdclfhahcfefeaa.Q
open Go Go.RowKit
set_option linter.unusedVariables false
set_option linter.unusedSimpArgs false
set_option maxRecDepth 100000
set_option maxHeartbeats 4000000
-- quaestor/wire.PutInt
theorem wire_PutInt (tb : Bool) (nb : Bool) (b : List UInt8) (n : Int) (hb : b.length ≤ 140737488355000) : Holds Try.prog 47 ⟨[slV tb nb kU8 b, dv (.int .i64 n)], [], ownV 0 kU8 0 (b ++ intB n).length, [.live (arrK 5 kU8 (b ++ intB n))]⟩ := by
  refine Holds.of Try.func47 rfl (N := 9) Try.ntmps47 rfl fun w0 B0 S0 U0 => ?_
  show T _ (mkBase 9 0 w0 S0 U0 B0) ⟨[slV tb nb kU8 b, dv (.int .i64 n)], []⟩ _ _
  have hn := u64_lt n
  refine T.seq ?_
  refine xR [] (by kernel_rfl) (by kernel_rfl) ?_
  refine nT ?_
  refine T.seq ?_
  refine xR [hR 2 rfl rfl (r_conv (u := .int .i64 n) (v := .int .u64 ((u64 n : Nat) : Int)) (c_u64 Try.underlying2 Try.underlying113) (lt_of rfl) trivial),
    hR 3 rfl rfl (r_call (wire_spell tb nb b (u64 n) 7 (by assumption) (by assumption) (by omega)) Try.func72 rfl (by decide) [0] [] (l := [(.tmp 5, slV tb nb kU8 b), (.tmp 7, dv (.int .u64 ((u64 n : Nat) : Int))), (.const (.int .i64 8), dv (.int .i64 8))]) [] rfl 0 1 rfl rfl rfl rfl rfl rfl rfl rfl rfl ⟨.inl ⟨rfl, rfl⟩, ⟨.inl ⟨rfl, rfl⟩, ⟨.inl ⟨rfl, rfl⟩, trivial⟩⟩⟩ rfl (fun b hb => by cases hb) (.inl rfl) (lt_of rfl) ⟨rfl, trivial⟩)] (by kernel_rfl) (by kernel_rfl) ?_
  refine nT ?_
  refine T.ret ?_
  exact tE (.inl rfl) [.t 4 (.one (.own 0 kU8.sz 0 (b ++ (spellB (u64 n) 8)).length))] ⟨⟨rfl, by kernel_rfl⟩, trivial⟩ [0] (by have e1 : ((b ++ intB n).length : Nat) = (b ++ (spellB (u64 n) 8)).length := (by rfl); have hE := congrArg (fun (q1 : Nat) => (ownV 0 kU8 0 q1 : AV)) e1; exact hE) rfl rfl rfl rfl rfl ⟨⟨rfl, (by have e1 : (b ++ (spellB (u64 n) 8) : List UInt8) = b ++ intB n := (by rfl); have hE := congrArg (fun (q1 : List UInt8) => (.live (arrK 5 kU8 q1) : HS)) e1; exact Eq.trans (by kernel_rfl) hE)⟩, trivial⟩
end Go.Proofs.Ytdclfhahcfefeaa.Q
namespace Go.Proofs.Ytdclfhahcfefeaa.Q
open Go Go.RowKit
set_option linter.unusedVariables false
set_option linter.unusedSimpArgs false
set_option maxRecDepth 100000
set_option maxHeartbeats 4000000
-- quaestor/wire.PutCount
theorem wire_PutCount (tb : Bool) (nb : Bool) (b : List UInt8) (n : Int) (hb : b.length ≤ 140737488355000) : Holds Try.prog 60 ⟨[slV tb nb kU8 b, dv (.int .i64 n)], [], ownV 0 kU8 0 (b ++ cntB n).length, [.live (arrK 5 kU8 (b ++ cntB n))]⟩ := by
  refine Holds.of Try.func60 rfl (N := 11) Try.ntmps60 rfl fun w0 B0 S0 U0 => ?_
  show T _ (mkBase 11 0 w0 S0 U0 B0) ⟨[slV tb nb kU8 b, dv (.int .i64 n)], []⟩ _ _
  have hn := cntN_lt n
  refine T.seq ?_
  refine xR [] (by kernel_rfl) (by kernel_rfl) ?_
  refine nT ?_
  refine T.seq ?_
  refine xR [hR 2 rfl rfl (r_max (k := .i64) (a := n) (b := 0) (lt_of rfl) ⟨rfl, trivial⟩),
    hR 3 rfl rfl (r_min (k := .i64) (a := max n 0) (b := 4294967295) (lt_of rfl) ⟨rfl, trivial⟩),
    hR 4 rfl rfl (r_conv (u := .int .i64 (min (max n 0) 4294967295)) (v := .int .u64 ((cntN n : Nat) : Int)) (c_int Try.underlying3 Try.underlying113 (by rw [IntKind.wrap_u64]; unfold cntN; omega)) (lt_of rfl) trivial),
    hR 5 rfl rfl (r_call (wire_spell tb nb b (cntN n) 3 (by assumption) (by omega) (by omega)) Try.func72 rfl (by decide) [0] [] (l := [(.tmp 5, slV tb nb kU8 b), (.tmp 9, dv (.int .u64 ((cntN n : Nat) : Int))), (.const (.int .i64 4), dv (.int .i64 4))]) [] rfl 0 1 rfl rfl rfl rfl rfl rfl rfl rfl rfl ⟨.inl ⟨rfl, rfl⟩, ⟨.inl ⟨rfl, rfl⟩, ⟨.inl ⟨rfl, rfl⟩, trivial⟩⟩⟩ rfl (fun b hb => by cases hb) (.inl rfl) (lt_of rfl) ⟨rfl, trivial⟩)] (by kernel_rfl) (by kernel_rfl) ?_
  refine nT ?_
  refine T.ret ?_
  exact tE (.inl rfl) [.t 4 (.one (.own 0 kU8.sz 0 (b ++ (spellB (cntN n) 4)).length))] ⟨⟨rfl, by kernel_rfl⟩, trivial⟩ [0] (by have e1 : ((b ++ cntB n).length : Nat) = (b ++ (spellB (cntN n) 4)).length := (by rfl); have hE := congrArg (fun (q1 : Nat) => (ownV 0 kU8 0 q1 : AV)) e1; exact hE) rfl rfl rfl rfl rfl ⟨⟨rfl, (by have e1 : (b ++ (spellB (cntN n) 4) : List UInt8) = b ++ cntB n := (by rfl); have hE := congrArg (fun (q1 : List UInt8) => (.live (arrK 5 kU8 q1) : HS)) e1; exact Eq.trans (by kernel_rfl) hE)⟩, trivial⟩
end Go.Proofs.Ytdclfhahcfefeaa.Q
namespace Go.Proofs.Ytdclfhahcfefeaa.Q
open Go Go.RowKit
set_option linter.unusedVariables false
set_option linter.unusedSimpArgs false
set_option maxRecDepth 100000
set_option maxHeartbeats 4000000
-- quaestor/wire.PutBytes
theorem wire_PutBytes (tb : Bool) (nb : Bool) (b : List UInt8) (tx : Bool) (nx : Bool) (x : List UInt8) (hb : b.length + x.length ≤ 140737488355000) : Holds Try.prog 46 ⟨[slV tb nb kU8 b, slV tx nx kU8 x], [], ownV 0 kU8 0 (b ++ bytesB x).length, [.live (arrK 5 kU8 (b ++ bytesB x))]⟩ := by
  refine Holds.of Try.func46 rfl (N := 11) Try.ntmps46 rfl fun w0 B0 S0 U0 => ?_
  show T _ (mkBase 11 0 w0 S0 U0 B0) ⟨[slV tb nb kU8 b, slV tx nx kU8 x], []⟩ _ _
  have hcl := cnt_len ((x.length : Nat) : Int)
  refine T.seq ?_
  refine xR [] (by kernel_rfl) (by kernel_rfl) ?_
  refine nT ?_
  refine T.seq ?_
  refine xR [hR 3 rfl rfl (r_call (wire_PutCount tb nb b ((x.length : Nat) : Int) (by omega)) Try.func60 rfl (by decide) [0] [] (l := [(.tmp 5, slV tb nb kU8 b), (.tmp 7, dv (.int .i64 ((x.length : Nat) : Int)))]) [] rfl 0 1 rfl rfl rfl rfl rfl rfl rfl rfl rfl ⟨.inl ⟨rfl, rfl⟩, ⟨.inl ⟨rfl, rfl⟩, trivial⟩⟩ rfl (fun b hb => by cases hb) (.inl rfl) (lt_of rfl) trivial),
    hR 5 rfl rfl (q_appendO 0 1 5 1 kU8 kU8_ok (b ++ cntB ((x.length : Nat) : Int)) x (b ++ cntB ((x.length : Nat) : Int) ++ x) (b ++ cntB ((x.length : Nat) : Int)).length (sy := (.d (dsl tx nx kU8 x))) (rhs := []) elem_58 (by omega) (src_sl tx nx kU8 x) (by rw [List.take_length]) (by (simp [maxLen, -List.getD_eq_getElem?_getD] <;> omega)) (by (simp [maxLen, -List.getD_eq_getElem?_getD] <;> omega)) (lt_of rfl) trivial)] (by kernel_rfl) (by kernel_rfl) ?_
  refine nT ?_
  refine T.ret ?_
  exact tE (.inl rfl) [.t 4 (.one (.own 1 kU8.sz 0 (b ++ cntB ((x.length : Nat) : Int) ++ x).length))] ⟨⟨rfl, by kernel_rfl⟩, trivial⟩ [1] (by have e1 : ((b ++ bytesB x).length : Nat) = (b ++ cntB ((x.length : Nat) : Int) ++ x).length := (by (simp only [bytesB, List.append_assoc])); have hE := congrArg (fun (q1 : Nat) => (ownV 1 kU8 0 q1 : AV)) e1; exact hE) rfl rfl rfl rfl rfl ⟨⟨rfl, (by have e1 : (b ++ cntB ((x.length : Nat) : Int) ++ x : List UInt8) = b ++ bytesB x := (by (simp only [bytesB, List.append_assoc])); have hE := congrArg (fun (q1 : List UInt8) => (.live (arrK 5 kU8 q1) : HS)) e1; exact Eq.trans (by kernel_rfl) hE)⟩, trivial⟩
end Go.Proofs.Ytdclfhahcfefeaa.Q
namespace Go.Proofs.Ytdclfhahcfefeaa.Q
open Go Go.RowKit
set_option linter.unusedVariables false
set_option linter.unusedSimpArgs false
set_option maxRecDepth 100000
set_option maxHeartbeats 4000000
-- quaestor/quaestorref01.bits
theorem ref01_bits (tb : Bool) (nb : Bool) (b : List UInt8) (n : Nat) (m : Nat) (hb : b.length ≤ 140737488355000) (hn : n < 18446744073709551616) (hm : m ≤ 8) : Holds Try.prog 80 ⟨[slV tb nb kU8 b, dv (.int .u64 ((n : Nat) : Int)), dv (.int .i64 ((m : Nat) : Int))], [], ownV 0 kU8 0 (b ++ (spellB n m)).length, [.live (arrK 5 kU8 (b ++ (spellB n m)))]⟩ := by
  refine Holds.of Try.func80 rfl (N := 27) Try.ntmps80 rfl fun w0 B0 S0 U0 => ?_
  show T _ (mkBase 27 0 w0 S0 U0 B0) ⟨[slV tb nb kU8 b, dv (.int .u64 ((n : Nat) : Int)), dv (.int .i64 ((m : Nat) : Int))], []⟩ _ _
  refine T.seq ?_
  refine xR [] (by kernel_rfl) (by kernel_rfl) ?_
  refine nT ?_
  refine T.seq ?_
  refine xR [hR 0 rfl rfl (q_buildSlice 0 5 kU8 kU8_ok ([] : List UInt8) [] (cs := []) Try.underlying58 iat_5 rfl zero_5 rfl rfl rfl (Nat.le_of_ble_eq_true rfl) part_ok rfl trivial (lt_of rfl) trivial),
    hR 2 rfl rfl (q_appendO 0 1 5 1 kU8 kU8_ok ([] : List UInt8) b b ([] : List UInt8).length (sy := (.d (dsl tb nb kU8 b))) (rhs := []) elem_58 (by omega) (src_sl tb nb kU8 b) (by simp) (by (simp [maxLen, -List.getD_eq_getElem?_getD] <;> omega)) (by (simp [maxLen, -List.getD_eq_getElem?_getD] <;> omega)) (lt_of rfl) trivial)] (by kernel_rfl) (by kernel_rfl) ?_
  refine nT ?_
  refine T.seq ?_
  refine T.seq ?_
  refine xR [hR 1 rfl rfl (r_bin (u1 := .int .i64 ((m : Nat) : Int)) (u2 := .int .i64 1) (v := .int .i64 (((m : Nat) : Int) - 1)) (b_sub (by rw [IntKind.wrap_i64]; omega)) (lt_of rfl) ⟨rfl, trivial⟩)] (by kernel_rfl) (by kernel_rfl) ?_
  refine nT ?_
  refine T.block ?_
  refine T.loop (ι := Nat × (List UInt8)) (fun (x_ : Nat × (List UInt8)) => ⟨[slV tb nb kU8 b, dv (.int .u64 ((n : Nat) : Int)), dv (.int .i64 ((m : Nat) : Int)), aa, aa, aa, dv (.slice none 0 0), ownV 1 kU8 0 x_.2.length, dv (.int .i64 (((x_.1 : Nat) : Int) - 1))], [.dead, .live (arrK 5 kU8 x_.2)]⟩) (fun (x_ : Nat × (List UInt8)) => (x_.1 ≤ m) ∧ (x_.2 ++ spellB n x_.1 = b ++ spellB n m)) (fun (x_ : Nat × (List UInt8)) => x_.1) (m, b) ⟨(Nat.le_refl _), rfl⟩ (fun _ _ hG => Gs.into2 (s' := ⟨[slV tb nb kU8 b, dv (.int .u64 ((n : Nat) : Int)), dv (.int .i64 ((m : Nat) : Int)), aa, aa, aa, dv (.slice none 0 0), ownV 1 kU8 0 b.length, dv (.int .i64 (((m : Nat) : Int) - 1))], [.dead, .live (arrK 5 kU8 b)]⟩) [3, 1] (bm 9 455) (t1 := [slV tb nb kU8 b, dv (.int .u64 ((n : Nat) : Int)), dv (.int .i64 ((m : Nat) : Int)), aa, aa, aa, dv (.slice none 0 0), ownV 1 kU8 0 b.length, dv (.int .i64 (((m : Nat) : Int) - 1))]) (h1 := [.dead, .live (arrK 5 kU8 b)]) rfl rfl (by kernel_rfl) (by kernel_rfl) (by kernel_rfl) (by kernel_rfl) (by kernel_rfl) (by kernel_rfl) (by kernel_rfl) (by kernel_rfl) (by kernel_rfl) (by kernel_rfl) (by kernel_rfl) hG) ?_
  rintro ⟨j, acc⟩ ⟨hj, he⟩
  show T _ _ ⟨[slV tb nb kU8 b, dv (.int .u64 ((n : Nat) : Int)), dv (.int .i64 ((m : Nat) : Int)), aa, aa, aa, dv (.slice none 0 0), ownV 1 kU8 0 acc.length, dv (.int .i64 (((j : Nat) : Int) - 1))], [.dead, .live (arrK 5 kU8 acc)]⟩ _ _
  replace hj : j ≤ m := hj
  replace he : acc ++ spellB n j = b ++ spellB n m := he
  have hacc := spell_lenE he
  refine T.seq ?_
  refine T.seq ?_
  refine xR [] (by kernel_rfl) (by kernel_rfl) ?_
  refine nT ?_
  by_cases hq1 : (((j : Nat) : Int) - 1) ≥ 0
  · refine T.condT (by kernel_rfl) (decide_eq_true hq1) ?_
    refine T.skip ?_
    refine nT ?_
    refine T.seq ?_
    refine T.block ?_
    refine xR [hR 3 rfl rfl (r_bin (u1 := .int .i64 8) (u2 := .int .i64 (((j : Nat) : Int) - 1)) (v := .int .i64 (8 * (((j : Nat) : Int) - 1))) (b_mul (by rw [IntKind.wrap_i64]; omega)) (lt_of rfl) ⟨rfl, trivial⟩),
      hR 4 rfl rfl (r_bin (u1 := .int .u64 ((n : Nat) : Int)) (u2 := .int .i64 (8 * (((j : Nat) : Int) - 1))) (v := .int .u64 ((n / 2 ^ (8 * (((j : Nat) : Int) - 1)).toNat : Nat) : Int)) (b_shrN (n := (8 * (((j : Nat) : Int) - 1)).toNat) (by omega) (Nat.le_trans (by omega) (by decide : 64 ≤ _))) (lt_of rfl) trivial),
      hR 5 rfl rfl (r_conv (u := .int .u64 ((n / 2 ^ (8 * (((j : Nat) : Int) - 1)).toNat : Nat) : Int)) (v := .int .u8 (((UInt8.ofNat (n / 2 ^ (8 * (((j : Nat) : Int) - 1)).toNat)).toNat : Nat) : Int)) (c_byte Try.underlying113 Try.underlying5) (lt_of rfl) trivial),
      hR 6 rfl rfl (q_buildSlice 2 5 kU8 kU8_ok [(UInt8.ofNat (n / 2 ^ (8 * (((j : Nat) : Int) - 1)).toNat))] [⟨0, .tmp 23, .one (.d (.val (.int .u8 (((UInt8.ofNat (n / 2 ^ (8 * (((j : Nat) : Int) - 1)).toNat)).toNat : Nat) : Int)))), 0⟩] (cs := [.d (.val (.int .u8 (((UInt8.ofNat (n / 2 ^ (8 * (((j : Nat) : Int) - 1)).toNat)).toNat : Nat) : Int)))]) Try.underlying58 iat_5 rfl zero_5 rfl rfl rfl (Nat.le_of_ble_eq_true rfl) (part_cons rfl rfl (Nat.le_of_ble_eq_true rfl) part_ok) rfl ⟨(.inl rfl), trivial⟩ (lt_of rfl) trivial),
      hR 7 rfl rfl (q_appendO 1 3 5 1 kU8 kU8_ok acc [(UInt8.ofNat (n / 2 ^ (8 * (((j : Nat) : Int) - 1)).toNat))] (acc ++ [(UInt8.ofNat (n / 2 ^ (8 * (((j : Nat) : Int) - 1)).toNat))]) acc.length (sy := (.own 2 kU8.sz 0 [(UInt8.ofNat (n / 2 ^ (8 * (((j : Nat) : Int) - 1)).toNat))].length)) (rhs := [(2, .live (arrK 5 kU8 [(UInt8.ofNat (n / 2 ^ (8 * (((j : Nat) : Int) - 1)).toNat))]))]) elem_58 (by omega) (src_own 2 5 kU8 [(UInt8.ofNat (n / 2 ^ (8 * (((j : Nat) : Int) - 1)).toNat))]) (by rw [List.take_length]) (by (simp [maxLen, -List.getD_eq_getElem?_getD] <;> omega)) (by (simp [maxLen, -List.getD_eq_getElem?_getD] <;> omega)) (lt_of rfl) trivial)] (by kernel_rfl) (by kernel_rfl) ?_
    refine nB ?_
    refine nT ?_
    refine xR [hR 1 rfl rfl (r_bin (u1 := .int .i64 (((j : Nat) : Int) - 1)) (u2 := .int .i64 1) (v := .int .i64 ((((j : Nat) : Int) - 1) - 1)) (b_sub (by rw [IntKind.wrap_i64]; omega)) (lt_of rfl) ⟨rfl, trivial⟩)] (by kernel_rfl) (by kernel_rfl) ?_
    refine nL (j - 1, acc ++ [UInt8.ofNat (n / 2 ^ (8 * (((j : Nat) : Int) - 1)).toNat)]) ⟨(show (j - 1) ≤ m from (by omega)), (show (acc ++ [UInt8.ofNat (n / 2 ^ (8 * (((j : Nat) : Int) - 1)).toNat)]) ++ spellB n (j - 1) = b ++ spellB n m from (spell_stepI he (by omega)))⟩ (show ((j - 1) : Nat) < j from (by omega)) (fun _ _ hG => Gs.into2 (s' := ⟨[slV tb nb kU8 b, dv (.int .u64 ((n : Nat) : Int)), dv (.int .i64 ((m : Nat) : Int)), aa, aa, aa, dv (.slice none 0 0), ownV 1 kU8 0 (acc ++ [UInt8.ofNat (n / 2 ^ (8 * (((j : Nat) : Int) - 1)).toNat)]).length, dv (.int .i64 (((j - 1 : Nat) : Int) - 1))], [.dead, .live (arrK 5 kU8 (acc ++ [UInt8.ofNat (n / 2 ^ (8 * (((j : Nat) : Int) - 1)).toNat)]))]⟩) [5, 3] (bm 9 455) (t1 := [slV tb nb kU8 b, dv (.int .u64 ((n : Nat) : Int)), dv (.int .i64 ((m : Nat) : Int)), aa, aa, aa, dv (.slice none 0 0), ownV 3 kU8 0 (acc ++ [UInt8.ofNat (n / 2 ^ (8 * (((j : Nat) : Int) - 1)).toNat)]).length, dv (.int .i64 (((j - 1 : Nat) : Int) - 1))]) (t2 := [slV tb nb kU8 b, dv (.int .u64 ((n : Nat) : Int)), dv (.int .i64 ((m : Nat) : Int)), aa, aa, aa, dv (.slice none 0 0), ownV 3 kU8 0 (acc ++ [(UInt8.ofNat (n / 2 ^ (8 * (((j : Nat) : Int) - 1)).toNat))]).length, dv (.int .i64 ((((j : Nat) : Int) - 1) - 1))]) (h1 := [.dead, .live (arrK 5 kU8 (acc ++ [UInt8.ofNat (n / 2 ^ (8 * (((j : Nat) : Int) - 1)).toNat)]))]) (h2 := [.dead, .live (arrK 5 kU8 (acc ++ [(UInt8.ofNat (n / 2 ^ (8 * (((j : Nat) : Int) - 1)).toNat))]))]) (by have e1 : ((acc ++ [UInt8.ofNat (n / 2 ^ (8 * (((j : Nat) : Int) - 1)).toNat)]).length : Nat) = (acc ++ [(UInt8.ofNat (n / 2 ^ (8 * (((j : Nat) : Int) - 1)).toNat))]).length := (by rfl); have e2 : (((j - 1 : Nat) : Int) - 1 : Int) = (((j : Nat) : Int) - 1) - 1 := (by omega); have hE := congr (congrArg (fun (q1 : Nat) (q2 : Int) => ([slV tb nb kU8 b, dv (.int .u64 ((n : Nat) : Int)), dv (.int .i64 ((m : Nat) : Int)), aa, aa, aa, dv (.slice none 0 0), ownV 3 kU8 0 q1, dv (.int .i64 q2)] : List AV)) e1) e2; exact hE) (by have e1 : (acc ++ [UInt8.ofNat (n / 2 ^ (8 * (((j : Nat) : Int) - 1)).toNat)] : List UInt8) = acc ++ [(UInt8.ofNat (n / 2 ^ (8 * (((j : Nat) : Int) - 1)).toNat))] := (by rfl); have hE := congrArg (fun (q1 : List UInt8) => ([.dead, .live (arrK 5 kU8 q1)] : List HS)) e1; exact hE) (by kernel_rfl) (by kernel_rfl) (by kernel_rfl) (by kernel_rfl) (by kernel_rfl) (by kernel_rfl) (by kernel_rfl) (by kernel_rfl) (by kernel_rfl) (by kernel_rfl) (by kernel_rfl) hG)
  · refine T.condF (by kernel_rfl) (decide_eq_false hq1) ?_
    refine T.exit ?_
    refine xT ?_
    refine xT ?_
    refine xH ?_
    refine nT ?_
    refine T.seq ?_
    refine xR [] (by kernel_rfl) (by kernel_rfl) ?_
    refine nT ?_
    refine T.ret ?_
    exact tE (.inl rfl) [.t 6 (.one (.own 1 kU8.sz 0 acc.length))] ⟨⟨rfl, by kernel_rfl⟩, trivial⟩ [1] (by have e1 : ((b ++ (spellB n m)).length : Nat) = acc.length := (by (rw [spell_end he (by omega)])); have hE := congrArg (fun (q1 : Nat) => (ownV 1 kU8 0 q1 : AV)) e1; exact hE) rfl rfl rfl rfl rfl ⟨⟨rfl, (by have e1 : (acc : List UInt8) = b ++ (spellB n m) := (by (rw [spell_end he (by omega)])); have hE := congrArg (fun (q1 : List UInt8) => (.live (arrK 5 kU8 q1) : HS)) e1; exact Eq.trans (by kernel_rfl) hE)⟩, trivial⟩
end Go.Proofs.Ytdclfhahcfefeaa.Q
namespace Go.Proofs.Ytdclfhahcfefeaa.Q
open Go Go.RowKit
set_option linter.unusedVariables false
set_option linter.unusedSimpArgs false
set_option maxRecDepth 100000
set_option maxHeartbeats 4000000
-- quaestor/quaestorref01.Int
theorem ref01_Int (tb : Bool) (nb : Bool) (b : List UInt8) (n : Int) (hb : b.length ≤ 140737488355000) : Holds Try.prog 57 ⟨[slV tb nb kU8 b, dv (.int .i64 n)], [], ownV 0 kU8 0 (b ++ intB n).length, [.live (arrK 5 kU8 (b ++ intB n))]⟩ := by
  refine Holds.of Try.func57 rfl (N := 9) Try.ntmps57 rfl fun w0 B0 S0 U0 => ?_
  show T _ (mkBase 9 0 w0 S0 U0 B0) ⟨[slV tb nb kU8 b, dv (.int .i64 n)], []⟩ _ _
  have hn := u64_lt n
  refine T.seq ?_
  refine xR [] (by kernel_rfl) (by kernel_rfl) ?_
  refine nT ?_
  refine T.seq ?_
  refine xR [hR 2 rfl rfl (r_conv (u := .int .i64 n) (v := .int .u64 ((u64 n : Nat) : Int)) (c_u64 Try.underlying2 Try.underlying113) (lt_of rfl) trivial),
    hR 3 rfl rfl (r_call (ref01_bits tb nb b (u64 n) 8 (by assumption) (by assumption) (by omega)) Try.func80 rfl (by decide) [0] [] (l := [(.tmp 5, slV tb nb kU8 b), (.tmp 7, dv (.int .u64 ((u64 n : Nat) : Int))), (.const (.int .i64 8), dv (.int .i64 8))]) [] rfl 0 1 rfl rfl rfl rfl rfl rfl rfl rfl rfl ⟨.inl ⟨rfl, rfl⟩, ⟨.inl ⟨rfl, rfl⟩, ⟨.inl ⟨rfl, rfl⟩, trivial⟩⟩⟩ rfl (fun b hb => by cases hb) (.inl rfl) (lt_of rfl) ⟨rfl, trivial⟩)] (by kernel_rfl) (by kernel_rfl) ?_
  refine nT ?_
  refine T.ret ?_
  exact tE (.inl rfl) [.t 4 (.one (.own 0 kU8.sz 0 (b ++ (spellB (u64 n) 8)).length))] ⟨⟨rfl, by kernel_rfl⟩, trivial⟩ [0] (by have e1 : ((b ++ intB n).length : Nat) = (b ++ (spellB (u64 n) 8)).length := (by rfl); have hE := congrArg (fun (q1 : Nat) => (ownV 0 kU8 0 q1 : AV)) e1; exact hE) rfl rfl rfl rfl rfl ⟨⟨rfl, (by have e1 : (b ++ (spellB (u64 n) 8) : List UInt8) = b ++ intB n := (by rfl); have hE := congrArg (fun (q1 : List UInt8) => (.live (arrK 5 kU8 q1) : HS)) e1; exact Eq.trans (by kernel_rfl) hE)⟩, trivial⟩
end Go.Proofs.Ytdclfhahcfefeaa.Q
namespace Go.Proofs.Ytdclfhahcfefeaa.Q
open Go Go.RowKit
set_option linter.unusedVariables false
set_option linter.unusedSimpArgs false
set_option maxRecDepth 100000
set_option maxHeartbeats 4000000
-- quaestor/quaestorref01.Count
theorem ref01_Count (tb : Bool) (nb : Bool) (b : List UInt8) (n : Int) (hb : b.length ≤ 140737488355000) : Holds Try.prog 79 ⟨[slV tb nb kU8 b, dv (.int .i64 n)], [], ownV 0 kU8 0 (b ++ cntB n).length, [.live (arrK 5 kU8 (b ++ cntB n))]⟩ := by
  refine Holds.of Try.func79 rfl (N := 11) Try.ntmps79 rfl fun w0 B0 S0 U0 => ?_
  show T _ (mkBase 11 0 w0 S0 U0 B0) ⟨[slV tb nb kU8 b, dv (.int .i64 n)], []⟩ _ _
  have hn := cntN_lt n
  refine T.seq ?_
  refine xR [] (by kernel_rfl) (by kernel_rfl) ?_
  refine nT ?_
  refine T.seq ?_
  refine xR [hR 2 rfl rfl (r_min (k := .i64) (a := n) (b := 4294967295) (lt_of rfl) ⟨rfl, trivial⟩),
    hR 3 rfl rfl (r_max (k := .i64) (a := 0) (b := min n 4294967295) (lt_of rfl) ⟨rfl, trivial⟩),
    hR 4 rfl rfl (r_conv (u := .int .i64 (max 0 (min n 4294967295))) (v := .int .u64 ((cntN n : Nat) : Int)) (c_int Try.underlying3 Try.underlying113 (by rw [IntKind.wrap_u64]; unfold cntN; omega)) (lt_of rfl) trivial),
    hR 5 rfl rfl (r_call (ref01_bits tb nb b (cntN n) 4 (by assumption) (by omega) (by omega)) Try.func80 rfl (by decide) [0] [] (l := [(.tmp 5, slV tb nb kU8 b), (.tmp 9, dv (.int .u64 ((cntN n : Nat) : Int))), (.const (.int .i64 4), dv (.int .i64 4))]) [] rfl 0 1 rfl rfl rfl rfl rfl rfl rfl rfl rfl ⟨.inl ⟨rfl, rfl⟩, ⟨.inl ⟨rfl, rfl⟩, ⟨.inl ⟨rfl, rfl⟩, trivial⟩⟩⟩ rfl (fun b hb => by cases hb) (.inl rfl) (lt_of rfl) ⟨rfl, trivial⟩)] (by kernel_rfl) (by kernel_rfl) ?_
  refine nT ?_
  refine T.ret ?_
  exact tE (.inl rfl) [.t 4 (.one (.own 0 kU8.sz 0 (b ++ (spellB (cntN n) 4)).length))] ⟨⟨rfl, by kernel_rfl⟩, trivial⟩ [0] (by have e1 : ((b ++ cntB n).length : Nat) = (b ++ (spellB (cntN n) 4)).length := (by rfl); have hE := congrArg (fun (q1 : Nat) => (ownV 0 kU8 0 q1 : AV)) e1; exact hE) rfl rfl rfl rfl rfl ⟨⟨rfl, (by have e1 : (b ++ (spellB (cntN n) 4) : List UInt8) = b ++ cntB n := (by rfl); have hE := congrArg (fun (q1 : List UInt8) => (.live (arrK 5 kU8 q1) : HS)) e1; exact Eq.trans (by kernel_rfl) hE)⟩, trivial⟩
end Go.Proofs.Ytdclfhahcfefeaa.Q
namespace Go.Proofs.Ytdclfhahcfefeaa.Q
open Go Go.RowKit
set_option linter.unusedVariables false
set_option linter.unusedSimpArgs false
set_option maxRecDepth 100000
set_option maxHeartbeats 4000000
-- quaestor/quaestorref01.Bytes
theorem ref01_Bytes (tb : Bool) (nb : Bool) (b : List UInt8) (tx : Bool) (nx : Bool) (x : List UInt8) (hb : b.length + x.length ≤ 140737488355000) : Holds Try.prog 56 ⟨[slV tb nb kU8 b, slV tx nx kU8 x], [], ownV 0 kU8 0 (b ++ bytesB x).length, [.live (arrK 5 kU8 (b ++ bytesB x))]⟩ := by
  refine Holds.of Try.func56 rfl (N := 13) Try.ntmps56 rfl fun w0 B0 S0 U0 => ?_
  show T _ (mkBase 13 0 w0 S0 U0 B0) ⟨[slV tb nb kU8 b, slV tx nx kU8 x], []⟩ _ _
  have hcl := cnt_len ((x.length : Nat) : Int)
  refine T.seq ?_
  refine xR [] (by kernel_rfl) (by kernel_rfl) ?_
  refine nT ?_
  refine T.seq ?_
  refine xR [hR 3 rfl rfl (r_call (ref01_Count tb nb b ((x.length : Nat) : Int) (by omega)) Try.func79 rfl (by decide) [0] [] (l := [(.tmp 6, slV tb nb kU8 b), (.tmp 8, dv (.int .i64 ((x.length : Nat) : Int)))]) [] rfl 0 1 rfl rfl rfl rfl rfl rfl rfl rfl rfl ⟨.inl ⟨rfl, rfl⟩, ⟨.inl ⟨rfl, rfl⟩, trivial⟩⟩ rfl (fun b hb => by cases hb) (.inl rfl) (lt_of rfl) trivial)] (by kernel_rfl) (by kernel_rfl) ?_
  refine nT ?_
  refine T.seq ?_
  refine xR [hR 2 rfl rfl (q_appendO 0 1 5 1 kU8 kU8_ok (b ++ cntB ((x.length : Nat) : Int)) x (b ++ cntB ((x.length : Nat) : Int) ++ x) (b ++ cntB ((x.length : Nat) : Int)).length (sy := (.d (dsl tx nx kU8 x))) (rhs := []) elem_58 (by omega) (src_sl tx nx kU8 x) (by rw [List.take_length]) (by (simp [maxLen, -List.getD_eq_getElem?_getD] <;> omega)) (by (simp [maxLen, -List.getD_eq_getElem?_getD] <;> omega)) (lt_of rfl) trivial)] (by kernel_rfl) (by kernel_rfl) ?_
  refine nT ?_
  refine T.ret ?_
  exact tE (.inl rfl) [.t 4 (.one (.own 1 kU8.sz 0 (b ++ cntB ((x.length : Nat) : Int) ++ x).length))] ⟨⟨rfl, by kernel_rfl⟩, trivial⟩ [1] (by have e1 : ((b ++ bytesB x).length : Nat) = (b ++ cntB ((x.length : Nat) : Int) ++ x).length := (by (simp only [bytesB, List.append_assoc])); have hE := congrArg (fun (q1 : Nat) => (ownV 1 kU8 0 q1 : AV)) e1; exact hE) rfl rfl rfl rfl rfl ⟨⟨rfl, (by have e1 : (b ++ cntB ((x.length : Nat) : Int) ++ x : List UInt8) = b ++ bytesB x := (by (simp only [bytesB, List.append_assoc])); have hE := congrArg (fun (q1 : List UInt8) => (.live (arrK 5 kU8 q1) : HS)) e1; exact Eq.trans (by kernel_rfl) hE)⟩, trivial⟩
end Go.Proofs.Ytdclfhahcfefeaa.Q
