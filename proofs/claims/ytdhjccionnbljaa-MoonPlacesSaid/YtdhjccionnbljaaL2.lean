/- Functions of the program as pure Lean functions, and that calls do what these say. Printed by a program out of the given form. -/
import Derived.Test.YtdhjccionnbljaaL1
set_option linter.unusedVariables false
set_option linter.unusedSimpArgs false
namespace Go.Proofs.Ytdhjccionnbljaa
open Go Go.RowKit Go.Sx
def m_R02_CheckSheet_L1 (s : TSheet) : Int → Option (Sum Int (Sum Int Int)) := fun i19 =>
  if (decide (i19 < (s.Rows.length : Int))) = true then
    Option.bind (idx s.Rows i19) fun e40 =>
    Option.bind (m_R02_isRow e40) fun x42 =>
    if (!x42) = true then
      some (.inr (.inr 21))
    else
      if (decide (i19 > 0)) = true then
        Option.bind (idx s.Rows (W (i19 - 1))) fun e46 =>
        Option.bind (idx s.Rows i19) fun e48 =>
        if (decide (e46.Minute ≥ e48.Minute)) = true then
          some (.inr (.inr 21))
        else
          Option.bind (idx s.Rows (W (i19 - 1))) fun e51 =>
          Option.bind (idx s.Rows i19) fun e53 =>
          Option.bind (m_R02_sign e51.Bearing e53.Bearing) fun x55 =>
          if (decide (x55 > 0)) = true then
            some (.inr (.inr 21))
          else
            some (.inl (W (i19 + 1)))
      else
        some (.inl (W (i19 + 1)))
  else
    some (.inr (.inl i19))
def m_R02_CheckSheet (s : TSheet) : Option Int :=
  Option.bind (m_R02_In s.Source 1 99999) fun x1 =>
  if (!x1) = true then
    some 21
  else
    Option.bind (m_R02_isNight s.Night) fun x4 =>
    if (!x4) = true then
      some 21
    else
      Option.bind (m_R02_areTimes s.Known s.Until) fun x7 =>
      if (!x7) = true then
        some 21
      else
        Option.bind (m_R02_In (s.Rows.length : Int) 2 12) fun x10 =>
        if (!x10) = true then
          some 21
        else
          Option.bind (loopF (m_R02_CheckSheet_L1 s) 0) fun e =>
          match e with
          | .inl i58 =>
            Option.bind (idx s.Rows 0) fun e59 =>
            if (e59.Minute != 0) = true then
              some 21
            else
              Option.bind (idx s.Rows (W ((s.Rows.length : Int) - 1))) fun e62 =>
              if (e62.Minute != 1439) = true then
                some 21
              else
                Option.bind (m_R02_isFrac s.Off 100) fun x65 =>
                if (!x65) = true then
                  some 21
                else
                  Option.bind (m_R02_In s.Off.Num 0 (W (90 * s.Off.Den))) fun x68 =>
                  if (!x68) = true then
                    some 21
                  else
                    if (decide (s.Light.Lo < 0)) = true then
                      some 21
                    else
                      if (decide (s.Light.Lo > s.Light.Hi)) = true then
                        some 21
                      else
                        if (decide (s.Light.Hi > 1000)) = true then
                          some 21
                        else
                          some 0
          | .inr rr74 =>
            some rr74
set_option maxRecDepth 100000 in
set_option maxHeartbeats 2000000 in
theorem d_R02_CheckSheet (s : TSheet) (r : Int) (hm : m_R02_CheckSheet s = some r) : Does Try.prog 79 [.agg (TSheet.c s)] (fun x => x = DI r) := by
  refine does_y (X := ⟨Try.prog, tt, Try.f79.ntmps, pl79, [], [], []⟩) pok _ Try.func79 rfl rfl (Nat.le_of_ble_eq_true rfl) ?_
  obtain ⟨x1, hx2, hm⟩ := bd_some hm
  refine CallY.det (d_R02_In s.Source 1 99999 _ hx2) ?_
  refine VIf.mk (fun (h3 : (!x1) = true) => ?_) (fun (h3 : (!x1) = false) => ?_)
  · replace hm := if_t h3 hm
    cases hm
    exact RetY.le (leD.refl _)
  · replace hm := if_f h3 hm
    obtain ⟨x4, hx5, hm⟩ := bd_some hm
    refine CallY.det (d_R02_isNight s.Night _ hx5) ?_
    refine VIf.mk (fun (h6 : (!x4) = true) => ?_) (fun (h6 : (!x4) = false) => ?_)
    · replace hm := if_t h6 hm
      cases hm
      exact RetY.le (leD.refl _)
    · replace hm := if_f h6 hm
      obtain ⟨x7, hx8, hm⟩ := bd_some hm
      refine CallY.det (d_R02_areTimes s.Known s.Until _ hx8) ?_
      refine VIf.mk (fun (h9 : (!x7) = true) => ?_) (fun (h9 : (!x7) = false) => ?_)
      · replace hm := if_t h9 hm
        cases hm
        exact RetY.le (leD.refl _)
      · replace hm := if_f h9 hm
        obtain ⟨x10, hx11, hm⟩ := bd_some hm
        refine CallY.det (d_R02_In ((s.Rows.length : Int)) 2 12 _ hx11) ?_
        refine VIf.mk (fun (h12 : (!x10) = true) => ?_) (fun (h12 : (!x10) = false) => ?_)
        · replace hm := if_t h12 hm
          cases hm
          exact RetY.le (leD.refl _)
        · replace hm := if_f h12 hm
          obtain ⟨ev75, he, hk76⟩ := bd_some hm
          refine LoopY.of (fun (lpx : Nat × Int) => match lpx with | (fu77, i19) => (⟨[(0, .agg [DI s.Source, DI s.Night, DI s.Known, DI s.Until, .lst 5 s.Rows.length (s.Rows.flatMap TRow.c), DI s.Off.Num, DI s.Off.Den, DI s.Light.Lo, DI s.Light.Hi]), (1, .own 0 0), (2, DI 0), (3, DI (s.Rows.length : Int)), (4, DI i19), (30, DB (!x10))], [(0, .blk [DI s.Source, DI s.Night, DI s.Known, DI s.Until, .lst 5 s.Rows.length (s.Rows.flatMap TRow.c), DI s.Off.Num, DI s.Off.Den, DI s.Light.Lo, DI s.Light.Hi] 41)], 1⟩ : Sy)) (fun lpx => loopO (m_R02_CheckSheet_L1 s) lpx.1 lpx.2 = some ev75) (fun lpx => lpx.1) (FUEL, 0) (SubY.of 1 rfl ⟨⟨_, rfl, leD.refl _⟩, ⟨_, rfl, leD.refl _⟩, ⟨_, rfl, leD.refl _⟩, ⟨_, rfl, leD.refl _⟩, ⟨_, rfl, leD.refl _⟩, ⟨_, rfl, leD.refl _⟩, trivial⟩ ⟨⟨_, rfl, leDL.refl _⟩, trivial⟩) he ?_
          rintro ⟨fu77, i19⟩ hi78
          obtain ⟨fu77, b, rfl, hm, hi78⟩ := loop_step hi78
          refine VIf.mk (fun (h79 : (decide (i19 < (s.Rows.length : Int))) = true) => ?_) (fun (h79 : (decide (i19 < (s.Rows.length : Int))) = false) => ?_)
          · replace hm := if_t h79 hm
            obtain ⟨e80, hx81, hm⟩ := bd_some hm
            refine ⟨_, el_idx (fun _ => rfl) hx81, ?_⟩
            obtain ⟨x82, hx83, hm⟩ := bd_some hm
            refine CallY.det (d_R02_isRow e80 _ hx83) ?_
            refine VIf.mk (fun (h84 : (!x82) = true) => ?_) (fun (h84 : (!x82) = false) => ?_)
            · replace hm := if_t h84 hm
              cases hm
              cases hi78
              have hm := hk76
              cases hm
              exact RetY.le (leD.refl _)
            · replace hm := if_f h84 hm
              refine ⟨rfl, ?_⟩
              refine VIf.mk (fun (h85 : (decide (i19 > 0)) = true) => ?_) (fun (h85 : (decide (i19 > 0)) = false) => ?_)
              · replace hm := if_t h85 hm
                obtain ⟨e86, hx87, hm⟩ := bd_some hm
                refine ⟨_, el_idx (fun _ => rfl) hx87, ?_⟩
                obtain ⟨e88, hx89, hm⟩ := bd_some hm
                refine ⟨_, el_idx (fun _ => rfl) hx89, ?_⟩
                refine VIf.mk (fun (h90 : (decide (e86.Minute ≥ e88.Minute)) = true) => ?_) (fun (h90 : (decide (e86.Minute ≥ e88.Minute)) = false) => ?_)
                · replace hm := if_t h90 hm
                  cases hm
                  cases hi78
                  have hm := hk76
                  cases hm
                  exact RetY.le (leD.refl _)
                · replace hm := if_f h90 hm
                  obtain ⟨e91, hx92, hm⟩ := bd_some hm
                  refine ⟨_, el_idx (fun _ => rfl) hx92, ?_⟩
                  obtain ⟨e93, hx94, hm⟩ := bd_some hm
                  refine ⟨_, el_idx (fun _ => rfl) hx94, ?_⟩
                  obtain ⟨x95, hx96, hm⟩ := bd_some hm
                  refine CallY.det (d_R02_sign e91.Bearing e93.Bearing _ hx96) ?_
                  refine VIf.mk (fun (h97 : (decide (x95 > 0)) = true) => ?_) (fun (h97 : (decide (x95 > 0)) = false) => ?_)
                  · replace hm := if_t h97 hm
                    cases hm
                    cases hi78
                    have hm := hk76
                    cases hm
                    exact RetY.le (leD.refl _)
                  · replace hm := if_f h97 hm
                    cases hm
                    exact ⟨(fu77, (W (i19 + 1))), SubY.of 1 rfl ⟨⟨_, rfl, leD.refl _⟩, ⟨_, rfl, leD.refl _⟩, ⟨_, rfl, leD.refl _⟩, ⟨_, rfl, leD.refl _⟩, ⟨_, rfl, leD.refl _⟩, ⟨_, rfl, leD.refl _⟩, trivial⟩ ⟨⟨_, rfl, leDL.refl _⟩, trivial⟩, hi78, Nat.lt_succ_self _⟩
              · replace hm := if_f h85 hm
                cases hm
                exact ⟨(fu77, (W (i19 + 1))), SubY.of 1 rfl ⟨⟨_, rfl, leD.refl _⟩, ⟨_, rfl, leD.refl _⟩, ⟨_, rfl, leD.refl _⟩, ⟨_, rfl, leD.refl _⟩, ⟨_, rfl, leD.refl _⟩, ⟨_, rfl, leD.refl _⟩, trivial⟩ ⟨⟨_, rfl, leDL.refl _⟩, trivial⟩, hi78, Nat.lt_succ_self _⟩
          · replace hm := if_f h79 hm
            cases hm
            cases hi78
            have hm := hk76
            obtain ⟨e98, hx99, hm⟩ := bd_some hm
            refine ⟨_, el_idx (fun _ => rfl) hx99, ?_⟩
            refine VIf.mk (fun (h100 : (e98.Minute != 0) = true) => ?_) (fun (h100 : (e98.Minute != 0) = false) => ?_)
            · replace hm := if_t h100 hm
              cases hm
              exact RetY.le (leD.refl _)
            · replace hm := if_f h100 hm
              obtain ⟨e101, hx102, hm⟩ := bd_some hm
              refine ⟨_, el_idx (fun _ => rfl) hx102, ?_⟩
              refine VIf.mk (fun (h103 : (e101.Minute != 1439) = true) => ?_) (fun (h103 : (e101.Minute != 1439) = false) => ?_)
              · replace hm := if_t h103 hm
                cases hm
                exact RetY.le (leD.refl _)
              · replace hm := if_f h103 hm
                obtain ⟨x104, hx105, hm⟩ := bd_some hm
                refine CallY.det (d_R02_isFrac s.Off 100 _ hx105) ?_
                refine VIf.mk (fun (h106 : (!x104) = true) => ?_) (fun (h106 : (!x104) = false) => ?_)
                · replace hm := if_t h106 hm
                  cases hm
                  exact RetY.le (leD.refl _)
                · replace hm := if_f h106 hm
                  obtain ⟨x107, hx108, hm⟩ := bd_some hm
                  refine CallY.det (d_R02_In s.Off.Num 0 (W (90 * s.Off.Den)) _ hx108) ?_
                  refine VIf.mk (fun (h109 : (!x107) = true) => ?_) (fun (h109 : (!x107) = false) => ?_)
                  · replace hm := if_t h109 hm
                    cases hm
                    exact RetY.le (leD.refl _)
                  · replace hm := if_f h109 hm
                    refine VIf.mk (fun (h110 : (decide (s.Light.Lo < 0)) = true) => ?_) (fun (h110 : (decide (s.Light.Lo < 0)) = false) => ?_)
                    · replace hm := if_t h110 hm
                      cases hm
                      exact RetY.le (leD.refl _)
                    · replace hm := if_f h110 hm
                      refine VIf.mk (fun (h111 : (decide (s.Light.Lo > s.Light.Hi)) = true) => ?_) (fun (h111 : (decide (s.Light.Lo > s.Light.Hi)) = false) => ?_)
                      · replace hm := if_t h111 hm
                        cases hm
                        exact RetY.le (leD.refl _)
                      · replace hm := if_f h111 hm
                        refine VIf.mk (fun (h112 : (decide (s.Light.Hi > 1000)) = true) => ?_) (fun (h112 : (decide (s.Light.Hi > 1000)) = false) => ?_)
                        · replace hm := if_t h112 hm
                          cases hm
                          exact RetY.le (leD.refl _)
                        · replace hm := if_f h112 hm
                          cases hm
                          exact RetY.le (leD.refl _)

def m_R02_CheckRoof (r_ : TRoof) : Option Int :=
  if (decide (r_.From < 0)) = true then
    some 22
  else
    if (decide (r_.From ≥ r_.To)) = true then
      some 22
    else
      if (decide (r_.To > 360)) = true then
        some 22
      else
        Option.bind (m_R02_In r_.Top 0 90) fun x4 =>
        if (!x4) = true then
          some 22
        else
          some 0
set_option maxRecDepth 100000 in
set_option maxHeartbeats 2000000 in
theorem d_R02_CheckRoof (r_ : TRoof) (r : Int) (hm : m_R02_CheckRoof r_ = some r) : Does Try.prog 131 [.agg (TRoof.c r_)] (fun x => x = DI r) := by
  refine does_y (X := ⟨Try.prog, tt, Try.f131.ntmps, [], [], [], []⟩) pok _ Try.func131 rfl rfl (Nat.le_of_ble_eq_true rfl) ?_
  refine VIf.mk (fun (h1 : (decide (r_.From < 0)) = true) => ?_) (fun (h1 : (decide (r_.From < 0)) = false) => ?_)
  · replace hm := if_t h1 hm
    cases hm
    exact RetY.le (leD.refl _)
  · replace hm := if_f h1 hm
    refine VIf.mk (fun (h2 : (decide (r_.From ≥ r_.To)) = true) => ?_) (fun (h2 : (decide (r_.From ≥ r_.To)) = false) => ?_)
    · replace hm := if_t h2 hm
      cases hm
      exact RetY.le (leD.refl _)
    · replace hm := if_f h2 hm
      refine VIf.mk (fun (h3 : (decide (r_.To > 360)) = true) => ?_) (fun (h3 : (decide (r_.To > 360)) = false) => ?_)
      · replace hm := if_t h3 hm
        cases hm
        exact RetY.le (leD.refl _)
      · replace hm := if_f h3 hm
        obtain ⟨x4, hx5, hm⟩ := bd_some hm
        refine CallY.det (d_R02_In r_.Top 0 90 _ hx5) ?_
        refine VIf.mk (fun (h6 : (!x4) = true) => ?_) (fun (h6 : (!x4) = false) => ?_)
        · replace hm := if_t h6 hm
          cases hm
          exact RetY.le (leD.refl _)
        · replace hm := if_f h6 hm
          cases hm
          exact RetY.le (leD.refl _)

def m_R02_areRoofs_L1 (l : (List TRoof)) : Int → Option (Sum Int (Sum Int Bool)) := fun i8 =>
  if (decide (i8 < (l.length : Int))) = true then
    Option.bind (idx l i8) fun e16 =>
    Option.bind (m_R02_CheckRoof e16) fun x18 =>
    if (x18 != 0) = true then
      some (.inr (.inr false))
    else
      some (.inl (W (i8 + 1)))
  else
    some (.inr (.inl i8))
def m_R02_areRoofs (l : (List TRoof)) : Option Bool :=
  if (decide ((l.length : Int) > 12)) = true then
    some false
  else
    Option.bind (loopF (m_R02_areRoofs_L1 l) 0) fun e =>
    match e with
    | .inl i21 =>
      some true
    | .inr rr22 =>
      some rr22
set_option maxRecDepth 100000 in
set_option maxHeartbeats 2000000 in
theorem d_R02_areRoofs (l : (List TRoof)) (r : Bool) (hm : m_R02_areRoofs l = some r) : Does Try.prog 85 [.lst 3 l.length (l.flatMap TRoof.c)] (fun x => x = DB r) := by
  refine does_y (X := ⟨Try.prog, tt, Try.f85.ntmps, [], [], [], []⟩) pok _ Try.func85 rfl rfl (Nat.le_of_ble_eq_true rfl) ?_
  refine VIf.mk (fun (h1 : (decide ((l.length : Int) > 12)) = true) => ?_) (fun (h1 : (decide ((l.length : Int) > 12)) = false) => ?_)
  · replace hm := if_t h1 hm
    cases hm
    exact RetY.le (leD.refl _)
  · replace hm := if_f h1 hm
    obtain ⟨ev23, he, hk24⟩ := bd_some hm
    refine LoopY.of (fun (lpx : Nat × Int) => match lpx with | (fu25, i8) => (⟨[(0, .lst 3 l.length (l.flatMap TRoof.c)), (2, DB false), (3, DI i8), (6, DB (decide ((l.length : Int) > 12)))], [], 0⟩ : Sy)) (fun lpx => loopO (m_R02_areRoofs_L1 l) lpx.1 lpx.2 = some ev23) (fun lpx => lpx.1) (FUEL, 0) (SubY.of 0 rfl ⟨⟨_, rfl, leD.refl _⟩, ⟨_, rfl, leD.refl _⟩, ⟨_, rfl, leD.refl _⟩, ⟨_, rfl, leD.refl _⟩, trivial⟩ trivial) he ?_
    rintro ⟨fu25, i8⟩ hi26
    obtain ⟨fu25, b, rfl, hm, hi26⟩ := loop_step hi26
    refine VIf.mk (fun (h27 : (decide (i8 < (l.length : Int))) = true) => ?_) (fun (h27 : (decide (i8 < (l.length : Int))) = false) => ?_)
    · replace hm := if_t h27 hm
      obtain ⟨e28, hx29, hm⟩ := bd_some hm
      refine ⟨_, el_idx (fun _ => rfl) hx29, ?_⟩
      obtain ⟨x30, hx31, hm⟩ := bd_some hm
      refine CallY.det (d_R02_CheckRoof e28 _ hx31) ?_
      refine VIf.mk (fun (h32 : (x30 != 0) = true) => ?_) (fun (h32 : (x30 != 0) = false) => ?_)
      · replace hm := if_t h32 hm
        cases hm
        cases hi26
        have hm := hk24
        cases hm
        exact RetY.le (leD.refl _)
      · replace hm := if_f h32 hm
        cases hm
        exact ⟨(fu25, (W (i8 + 1))), SubY.of 0 rfl ⟨⟨_, rfl, leD.refl _⟩, ⟨_, rfl, leD.refl _⟩, ⟨_, rfl, leD.refl _⟩, ⟨_, rfl, leD.refl _⟩, trivial⟩ trivial, hi26, Nat.lt_succ_self _⟩
    · replace hm := if_f h27 hm
      cases hm
      cases hi26
      have hm := hk24
      cases hm
      exact RetY.le (leD.refl _)

def m_moon_asked (s : TSheet) (minute : Int) : Option Int :=
  Option.bind (m_moon_CheckSheet s) fun x1 =>
  if (x1 != 0) = true then
    some x1
  else
    Option.bind (m_moon_isMinute minute) fun x4 =>
    if (!x4) = true then
      some 1
    else
      some 0
set_option maxRecDepth 100000 in
set_option maxHeartbeats 2000000 in
theorem d_moon_asked (s : TSheet) (minute : Int) (r : Int) (hm : m_moon_asked s minute = some r) : Does Try.prog 76 [.agg (TSheet.c s), DI minute] (fun x => x = DI r) := by
  refine does_y (X := ⟨Try.prog, tt, Try.f76.ntmps, [], [], [], []⟩) pok _ Try.func76 rfl rfl (Nat.le_of_ble_eq_true rfl) ?_
  obtain ⟨x1, hx2, hm⟩ := bd_some hm
  refine CallY.det (d_moon_CheckSheet s _ hx2) ?_
  refine VIf.mk (fun (h3 : (x1 != 0) = true) => ?_) (fun (h3 : (x1 != 0) = false) => ?_)
  · replace hm := if_t h3 hm
    cases hm
    exact RetY.le (leD.refl _)
  · replace hm := if_f h3 hm
    obtain ⟨x4, hx5, hm⟩ := bd_some hm
    refine CallY.det (d_moon_isMinute minute _ hx5) ?_
    refine VIf.mk (fun (h6 : (!x4) = true) => ?_) (fun (h6 : (!x4) = false) => ?_)
    · replace hm := if_t h6 hm
      cases hm
      exact RetY.le (leD.refl _)
    · replace hm := if_f h6 hm
      cases hm
      exact RetY.le (leD.refl _)

def m_moon_Height (s : TSheet) (minute : Int) : Option (TFrac × Int) :=
  Option.bind (m_moon_asked s minute) fun x1 =>
  if (x1 != 0) = true then
    some ((⟨0, 0⟩ : TFrac), x1)
  else
    Option.bind (m_moon_at__moon_heightOf s minute) fun x4 =>
    some (x4, 0)
set_option maxRecDepth 100000 in
set_option maxHeartbeats 2000000 in
theorem d_moon_Height (s : TSheet) (minute : Int) (r : (TFrac × Int)) (hm : m_moon_Height s minute = some r) : Does Try.prog 33 [.agg (TSheet.c s), DI minute] (fun x => x = .tup [.agg (TFrac.c r.1), DI r.2]) := by
  refine does_y (X := ⟨Try.prog, tt, Try.f33.ntmps, [], [], [], []⟩) pok _ Try.func33 rfl rfl (Nat.le_of_ble_eq_true rfl) ?_
  obtain ⟨x1, hx2, hm⟩ := bd_some hm
  refine CallY.det (d_moon_asked s minute _ hx2) ?_
  refine VIf.mk (fun (h3 : (x1 != 0) = true) => ?_) (fun (h3 : (x1 != 0) = false) => ?_)
  · replace hm := if_t h3 hm
    cases hm
    exact RetY.le (leD.refl _)
  · replace hm := if_f h3 hm
    obtain ⟨x4, hx5, hm⟩ := bd_some hm
    refine CallY.det (d_moon_at__moon_heightOf s minute _ hx5) ?_
    cases hm
    exact RetY.le (leD.refl _)

def m_R02_Height (s : TSheet) (minute : Int) : Option (TFrac × Int) :=
  Option.bind (m_R02_CheckSheet s) fun x1 =>
  if (x1 != 0) = true then
    some ((⟨0, 0⟩ : TFrac), 21)
  else
    Option.bind (m_R02_isMinute minute) fun x4 =>
    if (!x4) = true then
      some ((⟨0, 0⟩ : TFrac), 1)
    else
      Option.bind (m_R02_place s minute) fun ⟨x7, x8⟩ =>
      some (x7, 0)
set_option maxRecDepth 100000 in
set_option maxHeartbeats 2000000 in
theorem d_R02_Height (s : TSheet) (minute : Int) (r : (TFrac × Int)) (hm : m_R02_Height s minute = some r) : Does Try.prog 34 [.agg (TSheet.c s), DI minute] (fun x => x = .tup [.agg (TFrac.c r.1), DI r.2]) := by
  refine does_y (X := ⟨Try.prog, tt, Try.f34.ntmps, [], [], [], []⟩) pok _ Try.func34 rfl rfl (Nat.le_of_ble_eq_true rfl) ?_
  obtain ⟨x1, hx2, hm⟩ := bd_some hm
  refine CallY.det (d_R02_CheckSheet s _ hx2) ?_
  refine VIf.mk (fun (h3 : (x1 != 0) = true) => ?_) (fun (h3 : (x1 != 0) = false) => ?_)
  · replace hm := if_t h3 hm
    cases hm
    exact RetY.le (leD.refl _)
  · replace hm := if_f h3 hm
    obtain ⟨x4, hx5, hm⟩ := bd_some hm
    refine CallY.det (d_R02_isMinute minute _ hx5) ?_
    refine VIf.mk (fun (h6 : (!x4) = true) => ?_) (fun (h6 : (!x4) = false) => ?_)
    · replace hm := if_t h6 hm
      cases hm
      exact RetY.le (leD.refl _)
    · replace hm := if_f h6 hm
      obtain ⟨⟨x7, x8⟩, hx9, hm⟩ := bd_some hm
      refine CallY.det (d_R02_place s minute _ hx9) ?_
      cases hm
      exact RetY.le (leD.refl _)

def m_moon_Bearing (s : TSheet) (minute : Int) : Option (TFrac × Int) :=
  Option.bind (m_moon_asked s minute) fun x1 =>
  if (x1 != 0) = true then
    some ((⟨0, 0⟩ : TFrac), x1)
  else
    Option.bind (m_moon_at__moon_bearingOf s minute) fun x4 =>
    some (x4, 0)
set_option maxRecDepth 100000 in
set_option maxHeartbeats 2000000 in
theorem d_moon_Bearing (s : TSheet) (minute : Int) (r : (TFrac × Int)) (hm : m_moon_Bearing s minute = some r) : Does Try.prog 35 [.agg (TSheet.c s), DI minute] (fun x => x = .tup [.agg (TFrac.c r.1), DI r.2]) := by
  refine does_y (X := ⟨Try.prog, tt, Try.f35.ntmps, [], [], [], []⟩) pok _ Try.func35 rfl rfl (Nat.le_of_ble_eq_true rfl) ?_
  obtain ⟨x1, hx2, hm⟩ := bd_some hm
  refine CallY.det (d_moon_asked s minute _ hx2) ?_
  refine VIf.mk (fun (h3 : (x1 != 0) = true) => ?_) (fun (h3 : (x1 != 0) = false) => ?_)
  · replace hm := if_t h3 hm
    cases hm
    exact RetY.le (leD.refl _)
  · replace hm := if_f h3 hm
    obtain ⟨x4, hx5, hm⟩ := bd_some hm
    refine CallY.det (d_moon_at__moon_bearingOf s minute _ hx5) ?_
    cases hm
    exact RetY.le (leD.refl _)

def m_R02_Bearing (s : TSheet) (minute : Int) : Option (TFrac × Int) :=
  Option.bind (m_R02_CheckSheet s) fun x1 =>
  if (x1 != 0) = true then
    some ((⟨0, 0⟩ : TFrac), 21)
  else
    Option.bind (m_R02_isMinute minute) fun x4 =>
    if (!x4) = true then
      some ((⟨0, 0⟩ : TFrac), 1)
    else
      Option.bind (m_R02_place s minute) fun ⟨x7, x8⟩ =>
      some (x8, 0)
set_option maxRecDepth 100000 in
set_option maxHeartbeats 2000000 in
theorem d_R02_Bearing (s : TSheet) (minute : Int) (r : (TFrac × Int)) (hm : m_R02_Bearing s minute = some r) : Does Try.prog 36 [.agg (TSheet.c s), DI minute] (fun x => x = .tup [.agg (TFrac.c r.1), DI r.2]) := by
  refine does_y (X := ⟨Try.prog, tt, Try.f36.ntmps, [], [], [], []⟩) pok _ Try.func36 rfl rfl (Nat.le_of_ble_eq_true rfl) ?_
  obtain ⟨x1, hx2, hm⟩ := bd_some hm
  refine CallY.det (d_R02_CheckSheet s _ hx2) ?_
  refine VIf.mk (fun (h3 : (x1 != 0) = true) => ?_) (fun (h3 : (x1 != 0) = false) => ?_)
  · replace hm := if_t h3 hm
    cases hm
    exact RetY.le (leD.refl _)
  · replace hm := if_f h3 hm
    obtain ⟨x4, hx5, hm⟩ := bd_some hm
    refine CallY.det (d_R02_isMinute minute _ hx5) ?_
    refine VIf.mk (fun (h6 : (!x4) = true) => ?_) (fun (h6 : (!x4) = false) => ?_)
    · replace hm := if_t h6 hm
      cases hm
      exact RetY.le (leD.refl _)
    · replace hm := if_f h6 hm
      obtain ⟨⟨x7, x8⟩, hx9, hm⟩ := bd_some hm
      refine CallY.det (d_R02_place s minute _ hx9) ?_
      cases hm
      exact RetY.le (leD.refl _)

def m_moon_Horizon (l : (List TRoof)) (bearing : TFrac) : Option (Int × Int) :=
  Option.bind (m_moon_areRoofs l) fun x1 =>
  if (!x1) = true then
    some (0, 22)
  else
    Option.bind (m_moon_isFrac bearing 20000000) fun x4 =>
    if (!x4) = true then
      some (0, 20)
    else
      if (decide (bearing.Num < 0)) = true then
        some (0, 20)
      else
        if (decide (bearing.Num ≥ (W (360 * bearing.Den)))) = true then
          some (0, 20)
        else
          Option.bind (m_moon_horizon l bearing) fun x9 =>
          some (x9, 0)
set_option maxRecDepth 100000 in
set_option maxHeartbeats 2000000 in
theorem d_moon_Horizon (l : (List TRoof)) (bearing : TFrac) (r : (Int × Int)) (hm : m_moon_Horizon l bearing = some r) : Does Try.prog 37 [.lst 3 l.length (l.flatMap TRoof.c), .agg (TFrac.c bearing)] (fun x => x = .tup [DI r.1, DI r.2]) := by
  refine does_y (X := ⟨Try.prog, tt, Try.f37.ntmps, [], [], [], []⟩) pok _ Try.func37 rfl rfl (Nat.le_of_ble_eq_true rfl) ?_
  obtain ⟨x1, hx2, hm⟩ := bd_some hm
  refine CallY.det (d_moon_areRoofs l _ hx2) ?_
  refine VIf.mk (fun (h3 : (!x1) = true) => ?_) (fun (h3 : (!x1) = false) => ?_)
  · replace hm := if_t h3 hm
    cases hm
    exact RetY.le (leD.refl _)
  · replace hm := if_f h3 hm
    obtain ⟨x4, hx5, hm⟩ := bd_some hm
    refine CallY.det (d_moon_isFrac bearing 20000000 _ hx5) ?_
    refine VIf.mk (fun (h6 : (!x4) = true) => ?_) (fun (h6 : (!x4) = false) => ?_)
    · replace hm := if_t h6 hm
      cases hm
      exact RetY.le (leD.refl _)
    · replace hm := if_f h6 hm
      refine VIf.mk (fun (h7 : (decide (bearing.Num < 0)) = true) => ?_) (fun (h7 : (decide (bearing.Num < 0)) = false) => ?_)
      · replace hm := if_t h7 hm
        cases hm
        exact RetY.le (leD.refl _)
      · replace hm := if_f h7 hm
        refine VIf.mk (fun (h8 : (decide (bearing.Num ≥ (W (360 * bearing.Den)))) = true) => ?_) (fun (h8 : (decide (bearing.Num ≥ (W (360 * bearing.Den)))) = false) => ?_)
        · replace hm := if_t h8 hm
          cases hm
          exact RetY.le (leD.refl _)
        · replace hm := if_f h8 hm
          obtain ⟨x9, hx10, hm⟩ := bd_some hm
          refine CallY.det (d_moon_horizon l bearing _ hx10) ?_
          cases hm
          exact RetY.le (leD.refl _)

def m_R02_Horizon (l : (List TRoof)) (bearing : TFrac) : Option (Int × Int) :=
  Option.bind (m_R02_areRoofs l) fun x1 =>
  if (!x1) = true then
    some (0, 22)
  else
    Option.bind (m_R02_CheckFrac bearing) fun x4 =>
    if (x4 != 0) = true then
      some (0, 20)
    else
      if (decide (bearing.Num < 0)) = true then
        some (0, 20)
      else
        if (decide (bearing.Num ≥ (W (360 * bearing.Den)))) = true then
          some (0, 20)
        else
          Option.bind (m_R02_horizon l bearing) fun x9 =>
          some (x9, 0)
set_option maxRecDepth 100000 in
set_option maxHeartbeats 2000000 in
theorem d_R02_Horizon (l : (List TRoof)) (bearing : TFrac) (r : (Int × Int)) (hm : m_R02_Horizon l bearing = some r) : Does Try.prog 38 [.lst 3 l.length (l.flatMap TRoof.c), .agg (TFrac.c bearing)] (fun x => x = .tup [DI r.1, DI r.2]) := by
  refine does_y (X := ⟨Try.prog, tt, Try.f38.ntmps, [], [], [], []⟩) pok _ Try.func38 rfl rfl (Nat.le_of_ble_eq_true rfl) ?_
  obtain ⟨x1, hx2, hm⟩ := bd_some hm
  refine CallY.det (d_R02_areRoofs l _ hx2) ?_
  refine VIf.mk (fun (h3 : (!x1) = true) => ?_) (fun (h3 : (!x1) = false) => ?_)
  · replace hm := if_t h3 hm
    cases hm
    exact RetY.le (leD.refl _)
  · replace hm := if_f h3 hm
    obtain ⟨x4, hx5, hm⟩ := bd_some hm
    refine CallY.det (d_R02_CheckFrac bearing _ hx5) ?_
    refine VIf.mk (fun (h6 : (x4 != 0) = true) => ?_) (fun (h6 : (x4 != 0) = false) => ?_)
    · replace hm := if_t h6 hm
      cases hm
      exact RetY.le (leD.refl _)
    · replace hm := if_f h6 hm
      refine VIf.mk (fun (h7 : (decide (bearing.Num < 0)) = true) => ?_) (fun (h7 : (decide (bearing.Num < 0)) = false) => ?_)
      · replace hm := if_t h7 hm
        cases hm
        exact RetY.le (leD.refl _)
      · replace hm := if_f h7 hm
        refine VIf.mk (fun (h8 : (decide (bearing.Num ≥ (W (360 * bearing.Den)))) = true) => ?_) (fun (h8 : (decide (bearing.Num ≥ (W (360 * bearing.Den)))) = false) => ?_)
        · replace hm := if_t h8 hm
          cases hm
          exact RetY.le (leD.refl _)
        · replace hm := if_f h8 hm
          obtain ⟨x9, hx10, hm⟩ := bd_some hm
          refine CallY.det (d_R02_horizon l bearing _ hx10) ?_
          cases hm
          exact RetY.le (leD.refl _)

def m_R02_Margin (s : TSheet) (l : (List TRoof)) (minute : Int) : Option (TFrac × Int) :=
  Option.bind (m_R02_CheckSheet s) fun x1 =>
  if (x1 != 0) = true then
    some ((⟨0, 0⟩ : TFrac), 21)
  else
    Option.bind (m_R02_areRoofs l) fun x4 =>
    if (!x4) = true then
      some ((⟨0, 0⟩ : TFrac), 22)
    else
      Option.bind (m_R02_isMinute minute) fun x7 =>
      if (!x7) = true then
        some ((⟨0, 0⟩ : TFrac), 1)
      else
        Option.bind (m_R02_margin s l minute) fun x10 =>
        some (x10, 0)
set_option maxRecDepth 100000 in
set_option maxHeartbeats 2000000 in
theorem d_R02_Margin (s : TSheet) (l : (List TRoof)) (minute : Int) (r : (TFrac × Int)) (hm : m_R02_Margin s l minute = some r) : Does Try.prog 40 [.agg (TSheet.c s), .lst 3 l.length (l.flatMap TRoof.c), DI minute] (fun x => x = .tup [.agg (TFrac.c r.1), DI r.2]) := by
  refine does_y (X := ⟨Try.prog, tt, Try.f40.ntmps, [], [], [], []⟩) pok _ Try.func40 rfl rfl (Nat.le_of_ble_eq_true rfl) ?_
  obtain ⟨x1, hx2, hm⟩ := bd_some hm
  refine CallY.det (d_R02_CheckSheet s _ hx2) ?_
  refine VIf.mk (fun (h3 : (x1 != 0) = true) => ?_) (fun (h3 : (x1 != 0) = false) => ?_)
  · replace hm := if_t h3 hm
    cases hm
    exact RetY.le (leD.refl _)
  · replace hm := if_f h3 hm
    obtain ⟨x4, hx5, hm⟩ := bd_some hm
    refine CallY.det (d_R02_areRoofs l _ hx5) ?_
    refine VIf.mk (fun (h6 : (!x4) = true) => ?_) (fun (h6 : (!x4) = false) => ?_)
    · replace hm := if_t h6 hm
      cases hm
      exact RetY.le (leD.refl _)
    · replace hm := if_f h6 hm
      obtain ⟨x7, hx8, hm⟩ := bd_some hm
      refine CallY.det (d_R02_isMinute minute _ hx8) ?_
      refine VIf.mk (fun (h9 : (!x7) = true) => ?_) (fun (h9 : (!x7) = false) => ?_)
      · replace hm := if_t h9 hm
        cases hm
        exact RetY.le (leD.refl _)
      · replace hm := if_f h9 hm
        obtain ⟨x10, hx11, hm⟩ := bd_some hm
        refine CallY.det (d_R02_margin s l minute _ hx11) ?_
        cases hm
        exact RetY.le (leD.refl _)

def m_L02_MoonPlaces (s : TSky) (bearing : TFrac) (minute : Int) : Option Bool :=
  if (decide ((s.Sheets.length : Int) > 0)) = true then
    Option.bind (idx s.Sheets 0) fun e2 =>
    Option.bind (m_moon_Height e2 minute) fun ⟨x4, x5⟩ =>
    Option.bind (m_R02_Height e2 minute) fun ⟨x7, x8⟩ =>
    Option.bind (m_moon_Bearing e2 minute) fun ⟨x10, x11⟩ =>
    Option.bind (m_R02_Bearing e2 minute) fun ⟨x13, x14⟩ =>
    Option.bind (m_moon_Horizon s.Roofs bearing) fun ⟨x16, x17⟩ =>
    Option.bind (m_R02_Horizon s.Roofs bearing) fun ⟨x19, x20⟩ =>
    Option.bind (m_moon_Margin e2 s.Roofs minute) fun ⟨x22, x23⟩ =>
    Option.bind (m_R02_Margin e2 s.Roofs minute) fun ⟨x25, x26⟩ =>
    if ((x4.Num == x7.Num) && (x4.Den == x7.Den)) = true then
      if (x5 == x8) = true then
        if ((x10.Num == x13.Num) && (x10.Den == x13.Den)) = true then
          if (x11 == x14) = true then
            if (x16 == x19) = true then
              if (x17 == x20) = true then
                if ((x22.Num == x25.Num) && (x22.Den == x25.Den)) = true then
                  if (x23 == x26) = true then
                    Option.bind (m_L02_sane ) fun x36 =>
                    some x36
                  else
                    some false
                else
                  some false
              else
                some false
            else
              some false
          else
            some false
        else
          some false
      else
        some false
    else
      some false
  else
    Option.bind (m_moon_Height (⟨0, 0, 0, 0, [], (⟨0, 0⟩ : TFrac), (⟨0, 0⟩ : TRange)⟩ : TSheet) minute) fun ⟨x38, x39⟩ =>
    Option.bind (m_R02_Height (⟨0, 0, 0, 0, [], (⟨0, 0⟩ : TFrac), (⟨0, 0⟩ : TRange)⟩ : TSheet) minute) fun ⟨x41, x42⟩ =>
    Option.bind (m_moon_Bearing (⟨0, 0, 0, 0, [], (⟨0, 0⟩ : TFrac), (⟨0, 0⟩ : TRange)⟩ : TSheet) minute) fun ⟨x44, x45⟩ =>
    Option.bind (m_R02_Bearing (⟨0, 0, 0, 0, [], (⟨0, 0⟩ : TFrac), (⟨0, 0⟩ : TRange)⟩ : TSheet) minute) fun ⟨x47, x48⟩ =>
    Option.bind (m_moon_Horizon s.Roofs bearing) fun ⟨x50, x51⟩ =>
    Option.bind (m_R02_Horizon s.Roofs bearing) fun ⟨x53, x54⟩ =>
    Option.bind (m_moon_Margin (⟨0, 0, 0, 0, [], (⟨0, 0⟩ : TFrac), (⟨0, 0⟩ : TRange)⟩ : TSheet) s.Roofs minute) fun ⟨x56, x57⟩ =>
    Option.bind (m_R02_Margin (⟨0, 0, 0, 0, [], (⟨0, 0⟩ : TFrac), (⟨0, 0⟩ : TRange)⟩ : TSheet) s.Roofs minute) fun ⟨x59, x60⟩ =>
    if ((x38.Num == x41.Num) && (x38.Den == x41.Den)) = true then
      if (x39 == x42) = true then
        if ((x44.Num == x47.Num) && (x44.Den == x47.Den)) = true then
          if (x45 == x48) = true then
            if (x50 == x53) = true then
              if (x51 == x54) = true then
                if ((x56.Num == x59.Num) && (x56.Den == x59.Den)) = true then
                  if (x57 == x60) = true then
                    Option.bind (m_L02_sane ) fun x70 =>
                    some x70
                  else
                    some false
                else
                  some false
              else
                some false
            else
              some false
          else
            some false
        else
          some false
      else
        some false
    else
      some false
set_option maxRecDepth 100000 in
set_option maxHeartbeats 2000000 in
theorem d_L02_MoonPlaces (s : TSky) (bearing : TFrac) (minute : Int) (r : Bool) (hm : m_L02_MoonPlaces s bearing minute = some r) : Does Try.prog 7 [.agg (TSky.c s), .agg (TFrac.c bearing), DI minute] (fun x => x = DB r) := by
  refine does_y (X := ⟨Try.prog, tt, Try.f7.ntmps, [], [], [], []⟩) pok _ Try.func7 rfl rfl (Nat.le_of_ble_eq_true rfl) ?_
  refine VIf.mk (fun (h1 : (decide ((s.Sheets.length : Int) > 0)) = true) => ?_) (fun (h1 : (decide ((s.Sheets.length : Int) > 0)) = false) => ?_)
  · replace hm := if_t h1 hm
    obtain ⟨e2, hx3, hm⟩ := bd_some hm
    refine ⟨_, el_idx (fun _ => rfl) hx3, ?_⟩
    obtain ⟨⟨x4, x5⟩, hx6, hm⟩ := bd_some hm
    refine CallY.det (d_moon_Height e2 minute _ hx6) ?_
    obtain ⟨⟨x7, x8⟩, hx9, hm⟩ := bd_some hm
    refine CallY.det (d_R02_Height e2 minute _ hx9) ?_
    obtain ⟨⟨x10, x11⟩, hx12, hm⟩ := bd_some hm
    refine CallY.det (d_moon_Bearing e2 minute _ hx12) ?_
    obtain ⟨⟨x13, x14⟩, hx15, hm⟩ := bd_some hm
    refine CallY.det (d_R02_Bearing e2 minute _ hx15) ?_
    obtain ⟨⟨x16, x17⟩, hx18, hm⟩ := bd_some hm
    refine CallY.det (d_moon_Horizon s.Roofs bearing _ hx18) ?_
    obtain ⟨⟨x19, x20⟩, hx21, hm⟩ := bd_some hm
    refine CallY.det (d_R02_Horizon s.Roofs bearing _ hx21) ?_
    obtain ⟨⟨x22, x23⟩, hx24, hm⟩ := bd_some hm
    refine CallY.det (d_moon_Margin e2 s.Roofs minute _ hx24) ?_
    obtain ⟨⟨x25, x26⟩, hx27, hm⟩ := bd_some hm
    refine CallY.det (d_R02_Margin e2 s.Roofs minute _ hx27) ?_
    refine VIf.mk (fun (h28 : ((x4.Num == x7.Num) && (x4.Den == x7.Den)) = true) => ?_) (fun (h28 : ((x4.Num == x7.Num) && (x4.Den == x7.Den)) = false) => ?_)
    · replace hm := if_t h28 hm
      refine VIf.mk (fun (h29 : (x5 == x8) = true) => ?_) (fun (h29 : (x5 == x8) = false) => ?_)
      · replace hm := if_t h29 hm
        refine VIf.mk (fun (h30 : ((x10.Num == x13.Num) && (x10.Den == x13.Den)) = true) => ?_) (fun (h30 : ((x10.Num == x13.Num) && (x10.Den == x13.Den)) = false) => ?_)
        · replace hm := if_t h30 hm
          refine VIf.mk (fun (h31 : (x11 == x14) = true) => ?_) (fun (h31 : (x11 == x14) = false) => ?_)
          · replace hm := if_t h31 hm
            refine VIf.mk (fun (h32 : (x16 == x19) = true) => ?_) (fun (h32 : (x16 == x19) = false) => ?_)
            · replace hm := if_t h32 hm
              refine VIf.mk (fun (h33 : (x17 == x20) = true) => ?_) (fun (h33 : (x17 == x20) = false) => ?_)
              · replace hm := if_t h33 hm
                refine VIf.mk (fun (h34 : ((x22.Num == x25.Num) && (x22.Den == x25.Den)) = true) => ?_) (fun (h34 : ((x22.Num == x25.Num) && (x22.Den == x25.Den)) = false) => ?_)
                · replace hm := if_t h34 hm
                  refine VIf.mk (fun (h35 : (x23 == x26) = true) => ?_) (fun (h35 : (x23 == x26) = false) => ?_)
                  · replace hm := if_t h35 hm
                    obtain ⟨x36, hx37, hm⟩ := bd_some hm
                    refine CallY.det (d_L02_sane  _ hx37) ?_
                    cases hm
                    exact RetY.le (leD.refl _)
                  · replace hm := if_f h35 hm
                    cases hm
                    exact RetY.le (leD.refl _)
                · replace hm := if_f h34 hm
                  cases hm
                  exact RetY.le (leD.refl _)
              · replace hm := if_f h33 hm
                cases hm
                exact RetY.le (leD.refl _)
            · replace hm := if_f h32 hm
              cases hm
              exact RetY.le (leD.refl _)
          · replace hm := if_f h31 hm
            cases hm
            exact RetY.le (leD.refl _)
        · replace hm := if_f h30 hm
          cases hm
          exact RetY.le (leD.refl _)
      · replace hm := if_f h29 hm
        cases hm
        exact RetY.le (leD.refl _)
    · replace hm := if_f h28 hm
      cases hm
      exact RetY.le (leD.refl _)
  · replace hm := if_f h1 hm
    obtain ⟨⟨x38, x39⟩, hx40, hm⟩ := bd_some hm
    refine CallY.det ((d_moon_Height ((⟨0, 0, 0, 0, [], (⟨0, 0⟩ : TFrac), (⟨0, 0⟩ : TRange)⟩ : TSheet)) minute _ hx40).le ⟨⟨_, rfl, ⟨leD.refl _, leD.refl _, leD.refl _, leD.refl _, leD.nil, leD.refl _, leD.refl _, leD.refl _, leD.refl _, trivial⟩⟩, leD.refl _, trivial⟩) ?_
    obtain ⟨⟨x41, x42⟩, hx43, hm⟩ := bd_some hm
    refine CallY.det ((d_R02_Height ((⟨0, 0, 0, 0, [], (⟨0, 0⟩ : TFrac), (⟨0, 0⟩ : TRange)⟩ : TSheet)) minute _ hx43).le ⟨⟨_, rfl, ⟨leD.refl _, leD.refl _, leD.refl _, leD.refl _, leD.nil, leD.refl _, leD.refl _, leD.refl _, leD.refl _, trivial⟩⟩, leD.refl _, trivial⟩) ?_
    obtain ⟨⟨x44, x45⟩, hx46, hm⟩ := bd_some hm
    refine CallY.det ((d_moon_Bearing ((⟨0, 0, 0, 0, [], (⟨0, 0⟩ : TFrac), (⟨0, 0⟩ : TRange)⟩ : TSheet)) minute _ hx46).le ⟨⟨_, rfl, ⟨leD.refl _, leD.refl _, leD.refl _, leD.refl _, leD.nil, leD.refl _, leD.refl _, leD.refl _, leD.refl _, trivial⟩⟩, leD.refl _, trivial⟩) ?_
    obtain ⟨⟨x47, x48⟩, hx49, hm⟩ := bd_some hm
    refine CallY.det ((d_R02_Bearing ((⟨0, 0, 0, 0, [], (⟨0, 0⟩ : TFrac), (⟨0, 0⟩ : TRange)⟩ : TSheet)) minute _ hx49).le ⟨⟨_, rfl, ⟨leD.refl _, leD.refl _, leD.refl _, leD.refl _, leD.nil, leD.refl _, leD.refl _, leD.refl _, leD.refl _, trivial⟩⟩, leD.refl _, trivial⟩) ?_
    obtain ⟨⟨x50, x51⟩, hx52, hm⟩ := bd_some hm
    refine CallY.det (d_moon_Horizon s.Roofs bearing _ hx52) ?_
    obtain ⟨⟨x53, x54⟩, hx55, hm⟩ := bd_some hm
    refine CallY.det (d_R02_Horizon s.Roofs bearing _ hx55) ?_
    obtain ⟨⟨x56, x57⟩, hx58, hm⟩ := bd_some hm
    refine CallY.det ((d_moon_Margin ((⟨0, 0, 0, 0, [], (⟨0, 0⟩ : TFrac), (⟨0, 0⟩ : TRange)⟩ : TSheet)) s.Roofs minute _ hx58).le ⟨⟨_, rfl, ⟨leD.refl _, leD.refl _, leD.refl _, leD.refl _, leD.nil, leD.refl _, leD.refl _, leD.refl _, leD.refl _, trivial⟩⟩, leD.refl _, leD.refl _, trivial⟩) ?_
    obtain ⟨⟨x59, x60⟩, hx61, hm⟩ := bd_some hm
    refine CallY.det ((d_R02_Margin ((⟨0, 0, 0, 0, [], (⟨0, 0⟩ : TFrac), (⟨0, 0⟩ : TRange)⟩ : TSheet)) s.Roofs minute _ hx61).le ⟨⟨_, rfl, ⟨leD.refl _, leD.refl _, leD.refl _, leD.refl _, leD.nil, leD.refl _, leD.refl _, leD.refl _, leD.refl _, trivial⟩⟩, leD.refl _, leD.refl _, trivial⟩) ?_
    refine VIf.mk (fun (h62 : ((x38.Num == x41.Num) && (x38.Den == x41.Den)) = true) => ?_) (fun (h62 : ((x38.Num == x41.Num) && (x38.Den == x41.Den)) = false) => ?_)
    · replace hm := if_t h62 hm
      refine VIf.mk (fun (h63 : (x39 == x42) = true) => ?_) (fun (h63 : (x39 == x42) = false) => ?_)
      · replace hm := if_t h63 hm
        refine VIf.mk (fun (h64 : ((x44.Num == x47.Num) && (x44.Den == x47.Den)) = true) => ?_) (fun (h64 : ((x44.Num == x47.Num) && (x44.Den == x47.Den)) = false) => ?_)
        · replace hm := if_t h64 hm
          refine VIf.mk (fun (h65 : (x45 == x48) = true) => ?_) (fun (h65 : (x45 == x48) = false) => ?_)
          · replace hm := if_t h65 hm
            refine VIf.mk (fun (h66 : (x50 == x53) = true) => ?_) (fun (h66 : (x50 == x53) = false) => ?_)
            · replace hm := if_t h66 hm
              refine VIf.mk (fun (h67 : (x51 == x54) = true) => ?_) (fun (h67 : (x51 == x54) = false) => ?_)
              · replace hm := if_t h67 hm
                refine VIf.mk (fun (h68 : ((x56.Num == x59.Num) && (x56.Den == x59.Den)) = true) => ?_) (fun (h68 : ((x56.Num == x59.Num) && (x56.Den == x59.Den)) = false) => ?_)
                · replace hm := if_t h68 hm
                  refine VIf.mk (fun (h69 : (x57 == x60) = true) => ?_) (fun (h69 : (x57 == x60) = false) => ?_)
                  · replace hm := if_t h69 hm
                    obtain ⟨x70, hx71, hm⟩ := bd_some hm
                    refine CallY.det (d_L02_sane  _ hx71) ?_
                    cases hm
                    exact RetY.le (leD.refl _)
                  · replace hm := if_f h69 hm
                    cases hm
                    exact RetY.le (leD.refl _)
                · replace hm := if_f h68 hm
                  cases hm
                  exact RetY.le (leD.refl _)
              · replace hm := if_f h67 hm
                cases hm
                exact RetY.le (leD.refl _)
            · replace hm := if_f h66 hm
              cases hm
              exact RetY.le (leD.refl _)
          · replace hm := if_f h65 hm
            cases hm
            exact RetY.le (leD.refl _)
        · replace hm := if_f h64 hm
          cases hm
          exact RetY.le (leD.refl _)
      · replace hm := if_f h63 hm
        cases hm
        exact RetY.le (leD.refl _)
    · replace hm := if_f h62 hm
      cases hm
      exact RetY.le (leD.refl _)

end Go.Proofs.Ytdhjccionnbljaa
