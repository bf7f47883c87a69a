/- Functions of the program as pure Lean functions, and that calls do what these say. Printed by a program out of the given form. -/
import Derived.Test.YtdhjccionnbljaaL1
set_option linter.unusedVariables false
set_option linter.unusedSimpArgs false
namespace Go.Proofs.Ytdhjccionnbljaa
open Go Go.RowKit Go.Sx
set_option maxRecDepth 100000
set_option maxHeartbeats 2000000
def m_L02_MoonAnswers_L1 (s : TSky) (a : TAsk) : Int → Option (Sum Int (Sum Int Bool)) := fun n59 =>
  if (decide (n59 < 2)) = true then
    Option.bind (m_moon_Show s a.Night a.Known a.From (n59 == 1)) fun ⟨x78, x79⟩ =>
    Option.bind (m_R02_ShowError s a (n59 == 1)) fun x81 =>
    if (x79 != x81) = true then
      some (.inr (.inr false))
    else
      if (x79 != 0) = true then
        if (!((x78.Num == 0) && (x78.Den == 0))) = true then
          some (.inr (.inr false))
        else
          if (x79 == 0) = true then
            Option.bind (m_R02_Shows s a (⟨x78, (n59 == 1)⟩ : TOff)) fun x87 =>
            if (!x87) = true then
              some (.inr (.inr false))
            else
              some (.inl (W (n59 + 1)))
          else
            some (.inl (W (n59 + 1)))
      else
        if (x79 == 0) = true then
          Option.bind (m_R02_Shows s a (⟨x78, (n59 == 1)⟩ : TOff)) fun x91 =>
          if (!x91) = true then
            some (.inr (.inr false))
          else
            some (.inl (W (n59 + 1)))
        else
          some (.inl (W (n59 + 1)))
  else
    some (.inr (.inl n59))
def m_L02_MoonAnswers (s : TSky) (a : TAsk) : Option Bool :=
  Option.bind (m_moon_Above s a.Night a.Known a.From) fun ⟨x1, x2⟩ =>
  Option.bind (m_R02_Above s a) fun ⟨x4, x5⟩ =>
  Option.bind (m_moon_Light s a.Night a.Known a.From) fun ⟨x7, x8⟩ =>
  Option.bind (m_R02_Light s a) fun ⟨x10, x11⟩ =>
  Option.bind (m_moon_Whole s a.Night a.Known a.From a.To) fun ⟨x13, x14⟩ =>
  Option.bind (m_R02_Whole s a) fun ⟨x16, x17⟩ =>
  Option.bind (m_moon_Rises s a.Night a.Known a.From a.To) fun ⟨x19, x20⟩ =>
  Option.bind (m_R02_Rises s a) fun ⟨x22, x23⟩ =>
  Option.bind (m_moon_Spans s a.Night a.Known a.From a.To) fun ⟨x25, x26⟩ =>
  Option.bind (m_R02_Spans s a) fun ⟨x28, x29⟩ =>
  if (x1 != x4) = true then
    some false
  else
    if (x2 != x5) = true then
      some false
    else
      if (!((x7.Lo == x10.Lo) && (x7.Hi == x10.Hi))) = true then
        some false
      else
        if (x8 != x11) = true then
          some false
        else
          if (!((x13.Lo == x16.Lo) && (x13.Hi == x16.Hi))) = true then
            some false
          else
            if (x14 != x17) = true then
              some false
            else
              if (!((x19.Lo == x22.Lo) && (x19.Hi == x22.Hi))) = true then
                some false
              else
                if (x20 != x23) = true then
                  some false
                else
                  Option.bind (m_R02_SameSpans x25 x28) fun x39 =>
                  if (!x39) = true then
                    some false
                  else
                    if (x26 != x29) = true then
                      some false
                    else
                      Option.bind (loopF (m_L02_MoonAnswers_L1 s a) 0) fun e =>
                      match e with
                      | .inl n94 =>
                        Option.bind (m_L02_sane ) fun x95 =>
                        some x95
                      | .inr rr97 =>
                        some rr97
theorem d_L02_MoonAnswers (s : TSky) (a : TAsk) (r : Bool) (hm : m_L02_MoonAnswers s a = some r) : Does Try.prog 8 [.agg (TSky.c s), .agg (TAsk.c a)] (fun x => x = DB r) := by
  refine does_y (X := ⟨Try.prog, tt, Try.f8.ntmps, [], [], [], [], [99], []⟩) pok _ Try.func8 rfl rfl (Nat.le_of_ble_eq_true rfl) ?_
  obtain ⟨⟨x1, x2⟩, hx3, hm⟩ := bd_some hm
  refine CallY.det (d_moon_Above s a.Night a.Known a.From _ hx3) ?_
  obtain ⟨⟨x4, x5⟩, hx6, hm⟩ := bd_some hm
  refine CallY.det (d_R02_Above s a _ hx6) ?_
  obtain ⟨⟨x7, x8⟩, hx9, hm⟩ := bd_some hm
  refine CallY.det (d_moon_Light s a.Night a.Known a.From _ hx9) ?_
  obtain ⟨⟨x10, x11⟩, hx12, hm⟩ := bd_some hm
  refine CallY.det (d_R02_Light s a _ hx12) ?_
  obtain ⟨⟨x13, x14⟩, hx15, hm⟩ := bd_some hm
  refine CallY.det (d_moon_Whole s a.Night a.Known a.From a.To _ hx15) ?_
  obtain ⟨⟨x16, x17⟩, hx18, hm⟩ := bd_some hm
  refine CallY.det (d_R02_Whole s a _ hx18) ?_
  obtain ⟨⟨x19, x20⟩, hx21, hm⟩ := bd_some hm
  refine CallY.det (d_moon_Rises s a.Night a.Known a.From a.To _ hx21) ?_
  obtain ⟨⟨x22, x23⟩, hx24, hm⟩ := bd_some hm
  refine CallY.det (d_R02_Rises s a _ hx24) ?_
  obtain ⟨⟨x25, x26⟩, hx27, hm⟩ := bd_some hm
  refine CallY.det (d_moon_Spans s a.Night a.Known a.From a.To _ hx27) ?_
  obtain ⟨⟨x28, x29⟩, hx30, hm⟩ := bd_some hm
  refine CallY.det (d_R02_Spans s a _ hx30) ?_
  revert hm
  refine VIf.b (fun h31 hm => ?_) (fun h31 hm => ?_)
  cases hm
  exact RetY.le (leD.refl _)
  revert hm
  refine VIf.b (fun h32 hm => ?_) (fun h32 hm => ?_)
  cases hm
  exact RetY.le (leD.refl _)
  revert hm
  refine VIf.b (fun h33 hm => ?_) (fun h33 hm => ?_)
  cases hm
  exact RetY.le (leD.refl _)
  revert hm
  refine VIf.b (fun h34 hm => ?_) (fun h34 hm => ?_)
  cases hm
  exact RetY.le (leD.refl _)
  revert hm
  refine VIf.b (fun h35 hm => ?_) (fun h35 hm => ?_)
  cases hm
  exact RetY.le (leD.refl _)
  revert hm
  refine VIf.b (fun h36 hm => ?_) (fun h36 hm => ?_)
  cases hm
  exact RetY.le (leD.refl _)
  revert hm
  refine VIf.b (fun h37 hm => ?_) (fun h37 hm => ?_)
  cases hm
  exact RetY.le (leD.refl _)
  revert hm
  refine VIf.b (fun h38 hm => ?_) (fun h38 hm => ?_)
  cases hm
  exact RetY.le (leD.refl _)
  obtain ⟨x39, hx40, hm⟩ := bd_some hm
  refine CallY.det (d_R02_SameSpans x25 x28 _ hx40) ?_
  revert hm
  refine VIf.b (fun h41 hm => ?_) (fun h41 hm => ?_)
  cases hm
  exact RetY.le (leD.refl _)
  revert hm
  refine VIf.b (fun h42 hm => ?_) (fun h42 hm => ?_)
  cases hm
  exact RetY.le (leD.refl _)
  obtain ⟨ev98, he, hk99⟩ := bd_some hm
  refine LoopY.ofL (m_L02_MoonAnswers_L1 s a) (fun n59 => ⟨[(0, .agg [lD 9 s.Sheets TSheet.c, lD 3 s.Roofs TRoof.c, lD 6 s.Sightings TSighting.c]), (1, .agg [DI a.Night, DI a.Known, DI a.From, DI a.To]), (2, .own 0 0), (3, .own 1 0), (4, DB false), (5, DI x1), (6, DI x2), (7, DI x4), (8, DI x5), (9, .own 2 0), (10, DI x8), (11, .own 3 0), (12, DI x11), (13, .own 4 0), (14, DI x14), (15, .own 5 0), (16, DI x17), (17, .own 6 0), (18, DI x20), (19, .own 7 0), (20, DI x23), (21, lD 3 x25 TSpan.c), (22, DI x26), (23, lD 3 x28 TSpan.c), (24, DI x29), (25, DI n59), (168, DB (x26 != x29))], [(0, .blk [lD 9 s.Sheets TSheet.c, lD 3 s.Roofs TRoof.c, lD 6 s.Sightings TSighting.c] 32), (1, .blk [DI a.Night, DI a.Known, DI a.From, DI a.To] 81), (2, .blk [DI x7.Lo, DI x7.Hi] 39), (3, .blk [DI x10.Lo, DI x10.Hi] 39), (4, .blk [DI x13.Lo, DI x13.Hi] 39), (5, .blk [DI x16.Lo, DI x16.Hi] 39), (6, .blk [DI x19.Lo, DI x19.Hi] 39), (7, .blk [DI x22.Lo, DI x22.Hi] 39)], 8⟩) 0 (SubY.of 8 rfl ⟨tR rfl, tR rfl, tR rfl, tR rfl, tR rfl, tR rfl, tR rfl, tR rfl, tR rfl, tR rfl, tR rfl, tR rfl, tR rfl, tR rfl, tR rfl, tR rfl, tR rfl, tR rfl, tR rfl, tR rfl, tR rfl, tR rfl, tR rfl, tR rfl, tR rfl, tR rfl, tR rfl, trivial⟩ ⟨hR rfl, hR rfl, hR rfl, hR rfl, hR rfl, hR rfl, hR rfl, hR rfl, trivial⟩) he ?_
  rintro fu100 n59 b hm hi101
  revert hm
  refine VIf.b (fun h102 hm => ?_) (fun h102 hm => ?_)
  obtain ⟨⟨x103, x104⟩, hx105, hm⟩ := bd_some hm
  refine CallY.det (d_moon_Show s a.Night a.Known a.From (n59 == 1) _ hx105) ?_
  obtain ⟨x106, hx107, hm⟩ := bd_some hm
  refine CallY.det (d_R02_ShowError s a (n59 == 1) _ hx107) ?_
  revert hm
  refine VIf.b (fun h108 hm => ?_) (fun h108 hm => ?_)
  cases hm
  cases hi101
  have hm := hk99
  cases hm
  exact RetY.le (leD.refl _)
  revert hm
  refine VIf.b (fun h109 hm => ?_) (fun h109 hm => ?_)
  revert hm
  refine VIf.b (fun h110 hm => ?_) (fun h110 hm => ?_)
  cases hm
  cases hi101
  have hm := hk99
  cases hm
  exact RetY.le (leD.refl _)
  revert hm
  refine VIf.b (fun h111 hm => ?_) (fun h111 hm => ?_)
  obtain ⟨x112, hx113, hm⟩ := bd_some hm
  refine CallY.det (d_R02_Shows s a ((⟨x103, (n59 == 1)⟩ : TOff)) _ hx113) ?_
  revert hm
  refine VIf.b (fun h114 hm => ?_) (fun h114 hm => ?_)
  cases hm
  cases hi101
  have hm := hk99
  cases hm
  exact RetY.le (leD.refl _)
  cases hm
  exact ⟨(_, (W (n59 + 1))), SubY.of 8 rfl ⟨tR rfl, tR rfl, tR rfl, tR rfl, tR rfl, tR rfl, tR rfl, tR rfl, tR rfl, tR rfl, tR rfl, tR rfl, tR rfl, tR rfl, tR rfl, tR rfl, tR rfl, tR rfl, tR rfl, tR rfl, tR rfl, tR rfl, tR rfl, tR rfl, tR rfl, tR rfl, tR rfl, trivial⟩ ⟨hR rfl, hR rfl, hR rfl, hR rfl, hR rfl, hR rfl, hR rfl, hR rfl, trivial⟩, hi101, Nat.lt_succ_self _⟩
  cases hm
  exact ⟨(_, (W (n59 + 1))), SubY.of 8 rfl ⟨tR rfl, tR rfl, tR rfl, tR rfl, tR rfl, tR rfl, tR rfl, tR rfl, tR rfl, tR rfl, tR rfl, tR rfl, tR rfl, tR rfl, tR rfl, tR rfl, tR rfl, tR rfl, tR rfl, tR rfl, tR rfl, tR rfl, tR rfl, tR rfl, tR rfl, tR rfl, tR rfl, trivial⟩ ⟨hR rfl, hR rfl, hR rfl, hR rfl, hR rfl, hR rfl, hR rfl, hR rfl, trivial⟩, hi101, Nat.lt_succ_self _⟩
  revert hm
  refine VIf.b (fun h115 hm => ?_) (fun h115 hm => ?_)
  obtain ⟨x116, hx117, hm⟩ := bd_some hm
  refine CallY.det (d_R02_Shows s a ((⟨x103, (n59 == 1)⟩ : TOff)) _ hx117) ?_
  revert hm
  refine VIf.b (fun h118 hm => ?_) (fun h118 hm => ?_)
  cases hm
  cases hi101
  have hm := hk99
  cases hm
  exact RetY.le (leD.refl _)
  cases hm
  exact ⟨(_, (W (n59 + 1))), SubY.of 8 rfl ⟨tR rfl, tR rfl, tR rfl, tR rfl, tR rfl, tR rfl, tR rfl, tR rfl, tR rfl, tR rfl, tR rfl, tR rfl, tR rfl, tR rfl, tR rfl, tR rfl, tR rfl, tR rfl, tR rfl, tR rfl, tR rfl, tR rfl, tR rfl, tR rfl, tR rfl, tR rfl, tR rfl, trivial⟩ ⟨hR rfl, hR rfl, hR rfl, hR rfl, hR rfl, hR rfl, hR rfl, hR rfl, trivial⟩, hi101, Nat.lt_succ_self _⟩
  cases hm
  exact ⟨(_, (W (n59 + 1))), SubY.of 8 rfl ⟨tR rfl, tR rfl, tR rfl, tR rfl, tR rfl, tR rfl, tR rfl, tR rfl, tR rfl, tR rfl, tR rfl, tR rfl, tR rfl, tR rfl, tR rfl, tR rfl, tR rfl, tR rfl, tR rfl, tR rfl, tR rfl, tR rfl, tR rfl, tR rfl, tR rfl, tR rfl, tR rfl, trivial⟩ ⟨hR rfl, hR rfl, hR rfl, hR rfl, hR rfl, hR rfl, hR rfl, hR rfl, trivial⟩, hi101, Nat.lt_succ_self _⟩
  cases hm
  cases hi101
  have hm := hk99
  obtain ⟨x119, hx120, hm⟩ := bd_some hm
  refine CallY.det (d_L02_sane  _ hx120) ?_
  cases hm
  exact RetY.le (leD.refl _)

end Go.Proofs.Ytdhjccionnbljaa
