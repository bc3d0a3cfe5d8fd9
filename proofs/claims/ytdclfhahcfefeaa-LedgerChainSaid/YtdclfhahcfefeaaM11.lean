import Derived.Test.YtdclfhahcfefeaaM10A
namespace Go.Proofs.Ytdclfhahcfefeaa.Q
set_option linter.unusedVariables false
set_option linter.unusedSimpArgs false
set_option maxRecDepth 100000

/-! ### Ledgers -/

abbrev Links := List ledger_link
abbrev zB := z_api_Block
def lnk (b : api_Block) : ledger_link := ⟨b, digB (headB b)⟩
def linksB (L : List api_Block) : Links := L.map lnk
theorem links_len (L : List api_Block) : (linksB L).length = L.length := List.length_map ..
def hdL (d : List UInt8) (l : Links) : List UInt8 := if l.length = 0 then d else (l.getD (l.length - 1) z_ledger_link).f_digest
def appE (h : Int) (d : List UInt8) (l : Links) (b : api_Block) : Int := if chkB b = 0 then (if b.f_Height - 1 = h + ((l.length : Nat) : Int) then (if b.f_Prev = hdL d l then 0 else 101) else 100) else chkB b
def appL (h : Int) (d : List UInt8) (l : Links) (b : api_Block) : Links := if appE h d l b = 0 then l ++ [lnk b] else l
def inL (h : Int) (n : Nat) (x : Int) : Prop := h < x ∧ x ≤ h + ((n : Nat) : Int)
instance (h : Int) (n : Nat) (x : Int) : Decidable (inL h n x) := inferInstanceAs (Decidable (_ ∧ _))
def blkB (h : Int) (l : Links) (x : Int) : api_Block := if inL h l.length x then (l.getD (x - h - 1).toNat z_ledger_link).f_block else z_api_Block
def blkE (h : Int) (n : Nat) (x : Int) : Int := if inL h n x then 0 else 4
def cutE (h : Int) (n : Nat) (x : Int) : Int := if x < h ∨ x > h + ((n : Nat) : Int) then 2 else 0
def cutH (h : Int) (l : Links) (x : Int) : Int := if cutE h l.length x = 0 then x else h
def cutD (h : Int) (d : List UInt8) (l : Links) (x : Int) : List UInt8 := if cutE h l.length x = 0 ∧ x - h > 0 then (l.getD (x - h - 1).toNat z_ledger_link).f_digest else d
def cutL (h : Int) (l : Links) (x : Int) : Links := if cutE h l.length x = 0 then l.drop (x - h).toNat else l
theorem set_same {α : Type} {z : α} {l : List α} {k : Nat} (hk : k < l.length) : l.set k (l.getD k z) = l := by
  rw [List.getD_eq_getElem?_getD, List.getElem?_eq_getElem hk]
  exact List.set_getElem_self hk
def fewLk (l : Links) : Prop := ∀ x, x ∈ l → fewB x.f_block
instance (l : Links) : Decidable (fewLk l) := inferInstanceAs (Decidable (∀ x, x ∈ l → fewB x.f_block))
theorem fewLk_get {l : Links} (hw : fewLk l) (k : Nat) : fewB (l.getD k z_ledger_link).f_block := all_getD (p := fun (x : ledger_link) => fewB x.f_block) hw (by decide) k
section
variable {h : Int} {d : List UInt8} {l : Links} {b : api_Block}
theorem app_chk (hc : chkB b ≠ 0) : appE h d l b = chkB b ∧ appL h d l b = l := by
  have e : appE h d l b = chkB b := if_neg hc
  exact ⟨e, if_neg (by rw [e]; exact hc)⟩
theorem app_hgt (hc : ¬ chkB b ≠ 0) (hh : b.f_Height - 1 ≠ h + ((l.length : Nat) : Int)) : appE h d l b = 100 ∧ appL h d l b = l := by
  have e : appE h d l b = 100 := by rw [appE, if_pos (Classical.not_not.1 hc), if_neg hh]
  exact ⟨e, if_neg (by rw [e]; decide)⟩
theorem app_prv (hc : ¬ chkB b ≠ 0) (hh : ¬ b.f_Height - 1 ≠ h + ((l.length : Nat) : Int)) (hp : b.f_Prev ≠ hdL d l) : appE h d l b = 101 ∧ appL h d l b = l := by
  have e : appE h d l b = 101 := by rw [appE, if_pos (Classical.not_not.1 hc), if_pos (Classical.not_not.1 hh), if_neg hp]
  exact ⟨e, if_neg (by rw [e]; decide)⟩
theorem app_ok (hc : ¬ chkB b ≠ 0) (hh : ¬ b.f_Height - 1 ≠ h + ((l.length : Nat) : Int)) (hp : ¬ b.f_Prev ≠ hdL d l) : appE h d l b = 0 ∧ appL h d l b = l ++ [lnk b] := by
  have e : appE h d l b = 0 := by rw [appE, if_pos (Classical.not_not.1 hc), if_pos (Classical.not_not.1 hh), if_pos (Classical.not_not.1 hp)]
  exact ⟨e, if_pos e⟩
theorem cut_no {x : Int} (hx : x < h ∨ x > h + ((l.length : Nat) : Int)) : cutE h l.length x = 2 ∧ cutH h l x = h ∧ cutD h d l x = d ∧ cutL h l x = l := by
  have e : cutE h l.length x = 2 := if_pos hx
  exact ⟨e, if_neg (by rw [e]; decide), if_neg (fun q => by rw [e] at q; exact absurd q.1 (by decide)), if_neg (by rw [e]; decide)⟩
theorem cut_0 {x : Int} (hx : ¬ (x < h ∨ x > h + ((l.length : Nat) : Int))) (h0 : ¬ x - h > 0) : cutE h l.length x = 0 ∧ cutH h l x = h ∧ cutD h d l x = d ∧ cutL h l x = l := by
  have e : cutE h l.length x = 0 := if_neg hx
  refine ⟨e, (if_pos e).trans (by omega), if_neg (fun q => h0 q.2), (if_pos e).trans (by rw [show (x - h).toNat = 0 by omega]; rfl)⟩
theorem cut_1 {x : Int} (hx : ¬ (x < h ∨ x > h + ((l.length : Nat) : Int))) (h0 : x - h > 0) : cutE h l.length x = 0 ∧ cutH h l x = x ∧ cutD h d l x = (l.getD (x - h - 1).toNat z_ledger_link).f_digest ∧ cutL h l x = l.drop (x - h).toNat := by
  have e : cutE h l.length x = 0 := if_neg hx
  exact ⟨e, if_pos e, if_pos ⟨e, h0⟩, if_pos e⟩
end

/-! ### The document's -/

def fewLB (L : List api_Block) : Prop := ∀ b, b ∈ L → fewB b
instance (L : List api_Block) : Decidable (fewLB L) := inferInstanceAs (Decidable (∀ b, b ∈ L → fewB b))
theorem fewLB_get {L : List api_Block} (hw : fewLB L) (k : Nat) : fewB (L.getD k z_api_Block) := all_getD (p := fun (x : api_Block) => fewB x) hw (by decide) k
theorem links_few {L : List api_Block} (hw : fewLB L) : fewLk (linksB L) := fun x hx => by
  obtain ⟨b, hb, rfl⟩ := List.mem_map.1 hx
  exact hw b hb
def atB (d : List UInt8) (L : List api_Block) (n : Nat) : List UInt8 := if n = 0 then d else digB (headB (L.getD (n - 1) z_api_Block))
theorem links_get {L : List api_Block} {k : Nat} (hk : k < L.length) : (linksB L).getD k z_ledger_link = lnk (L.getD k z_api_Block) := by
  rw [List.getD_eq_getElem?_getD, List.getD_eq_getElem?_getD, linksB, List.getElem?_map, List.getElem?_eq_getElem hk]
  rfl
theorem hd_links (d : List UInt8) (L : List api_Block) : hdL d (linksB L) = atB d L L.length := by
  unfold hdL atB
  rw [links_len]
  by_cases h : L.length = 0
  · rw [if_pos h, if_pos h]
  · rw [if_neg h, if_neg h, links_get (by omega)]
    rfl
def rblk (h : Int) (L : List api_Block) (x : Int) : api_Block := if inL h L.length x then L.getD (x - h - 1).toNat z_api_Block else z_api_Block
theorem blk_links (h : Int) (L : List api_Block) (x : Int) : blkB h (linksB L) x = rblk h L x := by
  unfold blkB rblk
  rw [links_len]
  by_cases hi : inL h L.length x
  · have := hi.1; have := hi.2
    rw [if_pos hi, if_pos hi, links_get (by omega)]
    rfl
  · rw [if_neg hi, if_neg hi]
def rappE (h : Int) (d : List UInt8) (L : List api_Block) (b : api_Block) : Int := appE h d (linksB L) b
def rappL (h : Int) (d : List UInt8) (L : List api_Block) (b : api_Block) : List api_Block := if rappE h d L b = 0 then L ++ [b] else L
theorem app_links (h : Int) (d : List UInt8) (L : List api_Block) (b : api_Block) : appL h d (linksB L) b = linksB (rappL h d L b) := by
  unfold appL rappL rappE
  by_cases e : appE h d (linksB L) b = 0
  · rw [if_pos e, if_pos e]; simp [linksB]
  · rw [if_neg e, if_neg e]
def rcutL (h : Int) (L : List api_Block) (x : Int) : List api_Block := if cutE h L.length x = 0 then L.drop (x - h).toNat else L
def rcutD (h : Int) (d : List UInt8) (L : List api_Block) (x : Int) : List UInt8 := if cutE h L.length x = 0 then atB d L (x - h).toNat else d
def rcutH (h : Int) (L : List api_Block) (x : Int) : Int := if cutE h L.length x = 0 then x else h
theorem cut_links (h : Int) (d : List UInt8) (L : List api_Block) (x : Int) : cutL h (linksB L) x = linksB (rcutL h L x) ∧ cutH h (linksB L) x = rcutH h L x ∧ cutD h d (linksB L) x = rcutD h d L x := by
  unfold cutL rcutL cutH rcutH cutD rcutD
  rw [links_len]
  by_cases e : cutE h L.length x = 0
  · rw [if_pos e, if_pos e, if_pos e, if_pos e]
    refine ⟨by simp [linksB, List.map_drop], rfl, ?_⟩
    have hx : ¬ (x < h ∨ x > h + ((L.length : Nat) : Int)) := fun q => by rw [cutE, if_pos q] at e; exact absurd e (by decide)
    unfold atB
    by_cases h0 : x - h > 0
    · rw [if_pos ⟨e, h0⟩, if_neg (by omega), links_get (by omega), show (x - h - 1).toNat = (x - h).toNat - 1 by omega]
      rfl
    · rw [if_neg (fun q => h0 q.2), if_pos (by omega)]
  · rw [if_neg e, if_neg e, if_neg e, if_neg e, if_neg (fun q => e q.1)]
    exact ⟨rfl, rfl, rfl⟩
section
variable {h : Int} {d : List UInt8} {L : List api_Block} {b : api_Block}
theorem rapp_chk (hc : chkB b ≠ 0) : rappE h d L b = chkB b ∧ rappL h d L b = L := by
  have e : rappE h d L b = chkB b := (app_chk hc).1
  exact ⟨e, if_neg (by rw [e]; exact hc)⟩
theorem rapp_hgt (hc : ¬ chkB b ≠ 0) (hh : b.f_Height ≠ h + ((L.length : Nat) : Int) + 1) : rappE h d L b = 100 ∧ rappL h d L b = L := by
  have e : rappE h d L b = 100 := (app_hgt (l := linksB L) hc (by rw [links_len]; omega)).1
  exact ⟨e, if_neg (by rw [e]; decide)⟩
theorem rapp_prv (hc : ¬ chkB b ≠ 0) (hh : ¬ b.f_Height ≠ h + ((L.length : Nat) : Int) + 1) (hp : b.f_Prev ≠ atB d L L.length) : rappE h d L b = 101 ∧ rappL h d L b = L := by
  have e : rappE h d L b = 101 := (app_prv (l := linksB L) hc (by rw [links_len]; omega) (by rw [hd_links]; exact hp)).1
  exact ⟨e, if_neg (by rw [e]; decide)⟩
theorem rapp_ok (hc : ¬ chkB b ≠ 0) (hh : ¬ b.f_Height ≠ h + ((L.length : Nat) : Int) + 1) (hp : ¬ b.f_Prev ≠ atB d L L.length) : rappE h d L b = 0 ∧ rappL h d L b = L ++ [b] := by
  have e : rappE h d L b = 0 := (app_ok (l := linksB L) hc (by rw [links_len]; omega) (by rw [hd_links]; exact hp)).1
  exact ⟨e, if_pos e⟩
theorem rcut_no {x : Int} (hx : x < h ∨ x > h + ((L.length : Nat) : Int)) : cutE h L.length x = 2 ∧ rcutH h L x = h ∧ rcutD h d L x = d ∧ rcutL h L x = L := by
  have e : cutE h L.length x = 2 := if_pos hx
  exact ⟨e, if_neg (by rw [e]; decide), if_neg (by rw [e]; decide), if_neg (by rw [e]; decide)⟩
theorem rcut_yes {x : Int} (hx : ¬ (x < h ∨ x > h + ((L.length : Nat) : Int))) : cutE h L.length x = 0 ∧ rcutH h L x = x ∧ rcutD h d L x = atB d L (x - h).toNat ∧ rcutL h L x = L.drop (x - h).toNat := by
  have e : cutE h L.length x = 0 := if_neg hx
  exact ⟨e, if_pos e, if_pos e, if_pos e⟩
end

/-! ### Acts -/

abbrev Act' := quaestorlaw11_Act
def actB (h : Int) (d : List UInt8) (L : List api_Block) (x : Act') : api_Block := if x.f_Right = true then ⟨h + ((L.length : Nat) : Int) + 1, atB d L L.length, x.f_Block.f_Requests, x.f_Block.f_Results⟩ else x.f_Block
def stH (h : Int) (L : List api_Block) (x : Act') : Int := if x.f_Cut = true then rcutH h L x.f_H else h
def stD (h : Int) (d : List UInt8) (L : List api_Block) (x : Act') : List UInt8 := if x.f_Cut = true then rcutD h d L x.f_H else d
def stL (h : Int) (d : List UInt8) (L : List api_Block) (x : Act') : List api_Block := if x.f_Cut = true then rcutL h L x.f_H else rappL h d L (actB h d L x)
theorem act_few {h : Int} {d : List UInt8} {L : List api_Block} {x : Act'} (hf : fewB x.f_Block) (ha : (atB d L L.length).length ≤ 10000000) : fewB ⟨h + ((L.length : Nat) : Int) + 1, atB d L L.length, x.f_Block.f_Requests, x.f_Block.f_Results⟩ := ⟨hf.1, hf.2.1, ha⟩
theorem act_r {h : Int} {d : List UInt8} {L : List api_Block} {x : Act'} (hr : x.f_Right = true) : actB h d L x = ⟨h + ((L.length : Nat) : Int) + 1, atB d L L.length, x.f_Block.f_Requests, x.f_Block.f_Results⟩ := if_pos hr
theorem act_n {h : Int} {d : List UInt8} {L : List api_Block} {x : Act'} (hr : x.f_Right = false) : actB h d L x = x.f_Block := if_neg (by rw [hr]; decide)
theorem st_cut {h : Int} {d : List UInt8} {L : List api_Block} {x : Act'} (hc : x.f_Cut = true) : stH h L x = cutH h (linksB L) x.f_H ∧ stD h d L x = cutD h d (linksB L) x.f_H ∧ linksB (stL h d L x) = cutL h (linksB L) x.f_H ∧ stH h L x = rcutH h L x.f_H ∧ stD h d L x = rcutD h d L x.f_H ∧ stL h d L x = rcutL h L x.f_H := by
  obtain ⟨c1, c2, c3⟩ := cut_links h d L x.f_H
  have e1 : stH h L x = rcutH h L x.f_H := if_pos hc
  have e2 : stD h d L x = rcutD h d L x.f_H := if_pos hc
  have e3 : stL h d L x = rcutL h L x.f_H := if_pos hc
  exact ⟨e1.trans c2.symm, e2.trans c3.symm, by rw [e3, c1], e1, e2, e3⟩
theorem st_app {h : Int} {d : List UInt8} {L : List api_Block} {x : Act'} {b : api_Block} (hc : x.f_Cut = false) (hb : actB h d L x = b) : stH h L x = h ∧ stD h d L x = d ∧ linksB (stL h d L x) = appL h d (linksB L) b ∧ stL h d L x = rappL h d L b := by
  have hn : ¬ x.f_Cut = true := by rw [hc]; decide
  have e3 : stL h d L x = rappL h d L b := by rw [← hb]; exact if_neg hn
  exact ⟨if_neg hn, if_neg hn, by rw [e3, app_links], e3⟩
end Go.Proofs.Ytdclfhahcfefeaa.Q
