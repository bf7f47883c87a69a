/- Functions of the program as pure Lean functions, and that calls do what these say. Printed by a program out of the given form. -/
import Derived.Test.YtdhjccionnbljaaL1
set_option linter.unusedVariables false
set_option linter.unusedSimpArgs false
namespace Go.Proofs.Ytdhjccionnbljaa
open Go Go.RowKit Go.Sx
def m_L02_sane : Option Bool :=
  Option.bind (m_L02_example ) fun x1 =>
  Option.bind (idx x1.Sheets 0) fun e3 =>
  Option.bind (m_moon_Margin e3 x1.Roofs 530) fun ⟨x5, x6⟩ =>
  Option.bind (m_moon_Slip x1 5 6) fun ⟨x8, x9⟩ =>
  Option.bind (m_moon_Conflict x1 5 7) fun ⟨x11, x12⟩ =>
  Option.bind (m_moon_Above x1 5 3 476) fun ⟨x14, x15⟩ =>
  Option.bind (m_moon_Rises x1 5 6 400 700) fun ⟨x17, x18⟩ =>
  Option.bind (m_moon_Whole x1 5 6 500 700) fun ⟨x20, x21⟩ =>
  Option.bind (m_moon_Spans x1 5 3 470 532) fun ⟨x23, x24⟩ =>
  if (x6 == 0) = true then
    if (x9 == 0) = true then
      if (x12 == 0) = true then
        if (x15 == 0) = true then
          if (x18 == 0) = true then
            if (x21 == 0) = true then
              Option.bind (m_L02_of 3) fun x32 =>
              if ((x5.Num == x32.Num) && (x5.Den == x32.Den)) = true then
                Option.bind (m_L02_of 1) fun x35 =>
                Option.bind (m_L02_of 2) fun x37 =>
                if ((x8.Lo.Num == x35.Num) && ((x8.Lo.Den == x35.Den) && ((x8.Open == true) && ((x8.Hi.Num == x37.Num) && (x8.Hi.Den == x37.Den))))) = true then
                  Option.bind (m_R02_Same x11 ([10, 11] : List Int)) fun x40 =>
                  if x40 = true then
                    if ((x17.Lo == 476) && (x17.Hi == 500)) = true then
                      if ((x20.Lo == 400) && (x20.Hi == 500)) = true then
                        Option.bind (m_R02_SameSpans x23 ([(⟨470, 475, 0⟩ : TSpan), (⟨476, 529, 2⟩ : TSpan), (⟨530, 532, 1⟩ : TSpan)] : List TSpan)) fun x45 =>
                        if (x24 == 0) = true then
                          if (x14 == 2) = true then
                            some x45
                          else
                            some false
                        else
                          some false
                      else
                        if (x24 == 0) = true then
                          if (x14 == 2) = true then
                            some false
                          else
                            some false
                        else
                          some false
                    else
                      if (x24 == 0) = true then
                        if (x14 == 2) = true then
                          some false
                        else
                          some false
                      else
                        some false
                  else
                    if ((x17.Lo == 476) && (x17.Hi == 500)) = true then
                      if ((x20.Lo == 400) && (x20.Hi == 500)) = true then
                        Option.bind (m_R02_SameSpans x23 ([(⟨470, 475, 0⟩ : TSpan), (⟨476, 529, 2⟩ : TSpan), (⟨530, 532, 1⟩ : TSpan)] : List TSpan)) fun x55 =>
                        if (x24 == 0) = true then
                          some false
                        else
                          some false
                      else
                        if (x24 == 0) = true then
                          some false
                        else
                          some false
                    else
                      if (x24 == 0) = true then
                        some false
                      else
                        some false
                else
                  if ((x17.Lo == 476) && (x17.Hi == 500)) = true then
                    if ((x20.Lo == 400) && (x20.Hi == 500)) = true then
                      Option.bind (m_R02_SameSpans x23 ([(⟨470, 475, 0⟩ : TSpan), (⟨476, 529, 2⟩ : TSpan), (⟨530, 532, 1⟩ : TSpan)] : List TSpan)) fun x62 =>
                      if (x24 == 0) = true then
                        some false
                      else
                        some false
                    else
                      if (x24 == 0) = true then
                        some false
                      else
                        some false
                  else
                    if (x24 == 0) = true then
                      some false
                    else
                      some false
              else
                if ((x17.Lo == 476) && (x17.Hi == 500)) = true then
                  if ((x20.Lo == 400) && (x20.Hi == 500)) = true then
                    Option.bind (m_R02_SameSpans x23 ([(⟨470, 475, 0⟩ : TSpan), (⟨476, 529, 2⟩ : TSpan), (⟨530, 532, 1⟩ : TSpan)] : List TSpan)) fun x69 =>
                    if (x24 == 0) = true then
                      some false
                    else
                      some false
                  else
                    if (x24 == 0) = true then
                      some false
                    else
                      some false
                else
                  if (x24 == 0) = true then
                    some false
                  else
                    some false
            else
              Option.bind (m_L02_of 3) fun x74 =>
              if ((x5.Num == x74.Num) && (x5.Den == x74.Den)) = true then
                Option.bind (m_L02_of 1) fun x77 =>
                Option.bind (m_L02_of 2) fun x79 =>
                if ((x8.Lo.Num == x77.Num) && ((x8.Lo.Den == x77.Den) && ((x8.Open == true) && ((x8.Hi.Num == x79.Num) && (x8.Hi.Den == x79.Den))))) = true then
                  Option.bind (m_R02_Same x11 ([10, 11] : List Int)) fun x82 =>
                  if x82 = true then
                    if ((x17.Lo == 476) && (x17.Hi == 500)) = true then
                      if ((x20.Lo == 400) && (x20.Hi == 500)) = true then
                        Option.bind (m_R02_SameSpans x23 ([(⟨470, 475, 0⟩ : TSpan), (⟨476, 529, 2⟩ : TSpan), (⟨530, 532, 1⟩ : TSpan)] : List TSpan)) fun x87 =>
                        some false
                      else
                        some false
                    else
                      some false
                  else
                    if ((x17.Lo == 476) && (x17.Hi == 500)) = true then
                      if ((x20.Lo == 400) && (x20.Hi == 500)) = true then
                        Option.bind (m_R02_SameSpans x23 ([(⟨470, 475, 0⟩ : TSpan), (⟨476, 529, 2⟩ : TSpan), (⟨530, 532, 1⟩ : TSpan)] : List TSpan)) fun x91 =>
                        some false
                      else
                        some false
                    else
                      some false
                else
                  if ((x17.Lo == 476) && (x17.Hi == 500)) = true then
                    if ((x20.Lo == 400) && (x20.Hi == 500)) = true then
                      Option.bind (m_R02_SameSpans x23 ([(⟨470, 475, 0⟩ : TSpan), (⟨476, 529, 2⟩ : TSpan), (⟨530, 532, 1⟩ : TSpan)] : List TSpan)) fun x95 =>
                      some false
                    else
                      some false
                  else
                    some false
              else
                if ((x17.Lo == 476) && (x17.Hi == 500)) = true then
                  if ((x20.Lo == 400) && (x20.Hi == 500)) = true then
                    Option.bind (m_R02_SameSpans x23 ([(⟨470, 475, 0⟩ : TSpan), (⟨476, 529, 2⟩ : TSpan), (⟨530, 532, 1⟩ : TSpan)] : List TSpan)) fun x99 =>
                    some false
                  else
                    some false
                else
                  some false
          else
            Option.bind (m_L02_of 3) fun x101 =>
            if ((x5.Num == x101.Num) && (x5.Den == x101.Den)) = true then
              Option.bind (m_L02_of 1) fun x104 =>
              Option.bind (m_L02_of 2) fun x106 =>
              if ((x8.Lo.Num == x104.Num) && ((x8.Lo.Den == x104.Den) && ((x8.Open == true) && ((x8.Hi.Num == x106.Num) && (x8.Hi.Den == x106.Den))))) = true then
                Option.bind (m_R02_Same x11 ([10, 11] : List Int)) fun x109 =>
                if x109 = true then
                  if ((x17.Lo == 476) && (x17.Hi == 500)) = true then
                    if ((x20.Lo == 400) && (x20.Hi == 500)) = true then
                      Option.bind (m_R02_SameSpans x23 ([(⟨470, 475, 0⟩ : TSpan), (⟨476, 529, 2⟩ : TSpan), (⟨530, 532, 1⟩ : TSpan)] : List TSpan)) fun x114 =>
                      some false
                    else
                      some false
                  else
                    some false
                else
                  if ((x17.Lo == 476) && (x17.Hi == 500)) = true then
                    if ((x20.Lo == 400) && (x20.Hi == 500)) = true then
                      Option.bind (m_R02_SameSpans x23 ([(⟨470, 475, 0⟩ : TSpan), (⟨476, 529, 2⟩ : TSpan), (⟨530, 532, 1⟩ : TSpan)] : List TSpan)) fun x118 =>
                      some false
                    else
                      some false
                  else
                    some false
              else
                if ((x17.Lo == 476) && (x17.Hi == 500)) = true then
                  if ((x20.Lo == 400) && (x20.Hi == 500)) = true then
                    Option.bind (m_R02_SameSpans x23 ([(⟨470, 475, 0⟩ : TSpan), (⟨476, 529, 2⟩ : TSpan), (⟨530, 532, 1⟩ : TSpan)] : List TSpan)) fun x122 =>
                    some false
                  else
                    some false
                else
                  some false
            else
              if ((x17.Lo == 476) && (x17.Hi == 500)) = true then
                if ((x20.Lo == 400) && (x20.Hi == 500)) = true then
                  Option.bind (m_R02_SameSpans x23 ([(⟨470, 475, 0⟩ : TSpan), (⟨476, 529, 2⟩ : TSpan), (⟨530, 532, 1⟩ : TSpan)] : List TSpan)) fun x126 =>
                  some false
                else
                  some false
              else
                some false
        else
          Option.bind (m_L02_of 3) fun x128 =>
          if ((x5.Num == x128.Num) && (x5.Den == x128.Den)) = true then
            Option.bind (m_L02_of 1) fun x131 =>
            Option.bind (m_L02_of 2) fun x133 =>
            if ((x8.Lo.Num == x131.Num) && ((x8.Lo.Den == x131.Den) && ((x8.Open == true) && ((x8.Hi.Num == x133.Num) && (x8.Hi.Den == x133.Den))))) = true then
              Option.bind (m_R02_Same x11 ([10, 11] : List Int)) fun x136 =>
              if x136 = true then
                if ((x17.Lo == 476) && (x17.Hi == 500)) = true then
                  if ((x20.Lo == 400) && (x20.Hi == 500)) = true then
                    Option.bind (m_R02_SameSpans x23 ([(⟨470, 475, 0⟩ : TSpan), (⟨476, 529, 2⟩ : TSpan), (⟨530, 532, 1⟩ : TSpan)] : List TSpan)) fun x141 =>
                    some false
                  else
                    some false
                else
                  some false
              else
                if ((x17.Lo == 476) && (x17.Hi == 500)) = true then
                  if ((x20.Lo == 400) && (x20.Hi == 500)) = true then
                    Option.bind (m_R02_SameSpans x23 ([(⟨470, 475, 0⟩ : TSpan), (⟨476, 529, 2⟩ : TSpan), (⟨530, 532, 1⟩ : TSpan)] : List TSpan)) fun x145 =>
                    some false
                  else
                    some false
                else
                  some false
            else
              if ((x17.Lo == 476) && (x17.Hi == 500)) = true then
                if ((x20.Lo == 400) && (x20.Hi == 500)) = true then
                  Option.bind (m_R02_SameSpans x23 ([(⟨470, 475, 0⟩ : TSpan), (⟨476, 529, 2⟩ : TSpan), (⟨530, 532, 1⟩ : TSpan)] : List TSpan)) fun x149 =>
                  some false
                else
                  some false
              else
                some false
          else
            if ((x17.Lo == 476) && (x17.Hi == 500)) = true then
              if ((x20.Lo == 400) && (x20.Hi == 500)) = true then
                Option.bind (m_R02_SameSpans x23 ([(⟨470, 475, 0⟩ : TSpan), (⟨476, 529, 2⟩ : TSpan), (⟨530, 532, 1⟩ : TSpan)] : List TSpan)) fun x153 =>
                some false
              else
                some false
            else
              some false
      else
        Option.bind (m_L02_of 3) fun x155 =>
        if ((x5.Num == x155.Num) && (x5.Den == x155.Den)) = true then
          Option.bind (m_L02_of 1) fun x158 =>
          Option.bind (m_L02_of 2) fun x160 =>
          if ((x8.Lo.Num == x158.Num) && ((x8.Lo.Den == x158.Den) && ((x8.Open == true) && ((x8.Hi.Num == x160.Num) && (x8.Hi.Den == x160.Den))))) = true then
            Option.bind (m_R02_Same x11 ([10, 11] : List Int)) fun x163 =>
            if x163 = true then
              if ((x17.Lo == 476) && (x17.Hi == 500)) = true then
                if ((x20.Lo == 400) && (x20.Hi == 500)) = true then
                  Option.bind (m_R02_SameSpans x23 ([(⟨470, 475, 0⟩ : TSpan), (⟨476, 529, 2⟩ : TSpan), (⟨530, 532, 1⟩ : TSpan)] : List TSpan)) fun x168 =>
                  some false
                else
                  some false
              else
                some false
            else
              if ((x17.Lo == 476) && (x17.Hi == 500)) = true then
                if ((x20.Lo == 400) && (x20.Hi == 500)) = true then
                  Option.bind (m_R02_SameSpans x23 ([(⟨470, 475, 0⟩ : TSpan), (⟨476, 529, 2⟩ : TSpan), (⟨530, 532, 1⟩ : TSpan)] : List TSpan)) fun x172 =>
                  some false
                else
                  some false
              else
                some false
          else
            if ((x17.Lo == 476) && (x17.Hi == 500)) = true then
              if ((x20.Lo == 400) && (x20.Hi == 500)) = true then
                Option.bind (m_R02_SameSpans x23 ([(⟨470, 475, 0⟩ : TSpan), (⟨476, 529, 2⟩ : TSpan), (⟨530, 532, 1⟩ : TSpan)] : List TSpan)) fun x176 =>
                some false
              else
                some false
            else
              some false
        else
          if ((x17.Lo == 476) && (x17.Hi == 500)) = true then
            if ((x20.Lo == 400) && (x20.Hi == 500)) = true then
              Option.bind (m_R02_SameSpans x23 ([(⟨470, 475, 0⟩ : TSpan), (⟨476, 529, 2⟩ : TSpan), (⟨530, 532, 1⟩ : TSpan)] : List TSpan)) fun x180 =>
              some false
            else
              some false
          else
            some false
    else
      Option.bind (m_L02_of 3) fun x182 =>
      if ((x5.Num == x182.Num) && (x5.Den == x182.Den)) = true then
        Option.bind (m_L02_of 1) fun x185 =>
        Option.bind (m_L02_of 2) fun x187 =>
        if ((x8.Lo.Num == x185.Num) && ((x8.Lo.Den == x185.Den) && ((x8.Open == true) && ((x8.Hi.Num == x187.Num) && (x8.Hi.Den == x187.Den))))) = true then
          Option.bind (m_R02_Same x11 ([10, 11] : List Int)) fun x190 =>
          if x190 = true then
            if ((x17.Lo == 476) && (x17.Hi == 500)) = true then
              if ((x20.Lo == 400) && (x20.Hi == 500)) = true then
                Option.bind (m_R02_SameSpans x23 ([(⟨470, 475, 0⟩ : TSpan), (⟨476, 529, 2⟩ : TSpan), (⟨530, 532, 1⟩ : TSpan)] : List TSpan)) fun x195 =>
                some false
              else
                some false
            else
              some false
          else
            if ((x17.Lo == 476) && (x17.Hi == 500)) = true then
              if ((x20.Lo == 400) && (x20.Hi == 500)) = true then
                Option.bind (m_R02_SameSpans x23 ([(⟨470, 475, 0⟩ : TSpan), (⟨476, 529, 2⟩ : TSpan), (⟨530, 532, 1⟩ : TSpan)] : List TSpan)) fun x199 =>
                some false
              else
                some false
            else
              some false
        else
          if ((x17.Lo == 476) && (x17.Hi == 500)) = true then
            if ((x20.Lo == 400) && (x20.Hi == 500)) = true then
              Option.bind (m_R02_SameSpans x23 ([(⟨470, 475, 0⟩ : TSpan), (⟨476, 529, 2⟩ : TSpan), (⟨530, 532, 1⟩ : TSpan)] : List TSpan)) fun x203 =>
              some false
            else
              some false
          else
            some false
      else
        if ((x17.Lo == 476) && (x17.Hi == 500)) = true then
          if ((x20.Lo == 400) && (x20.Hi == 500)) = true then
            Option.bind (m_R02_SameSpans x23 ([(⟨470, 475, 0⟩ : TSpan), (⟨476, 529, 2⟩ : TSpan), (⟨530, 532, 1⟩ : TSpan)] : List TSpan)) fun x207 =>
            some false
          else
            some false
        else
          some false
  else
    Option.bind (m_L02_of 3) fun x209 =>
    if ((x5.Num == x209.Num) && (x5.Den == x209.Den)) = true then
      Option.bind (m_L02_of 1) fun x212 =>
      Option.bind (m_L02_of 2) fun x214 =>
      if ((x8.Lo.Num == x212.Num) && ((x8.Lo.Den == x212.Den) && ((x8.Open == true) && ((x8.Hi.Num == x214.Num) && (x8.Hi.Den == x214.Den))))) = true then
        Option.bind (m_R02_Same x11 ([10, 11] : List Int)) fun x217 =>
        if x217 = true then
          if ((x17.Lo == 476) && (x17.Hi == 500)) = true then
            if ((x20.Lo == 400) && (x20.Hi == 500)) = true then
              Option.bind (m_R02_SameSpans x23 ([(⟨470, 475, 0⟩ : TSpan), (⟨476, 529, 2⟩ : TSpan), (⟨530, 532, 1⟩ : TSpan)] : List TSpan)) fun x222 =>
              some false
            else
              some false
          else
            some false
        else
          if ((x17.Lo == 476) && (x17.Hi == 500)) = true then
            if ((x20.Lo == 400) && (x20.Hi == 500)) = true then
              Option.bind (m_R02_SameSpans x23 ([(⟨470, 475, 0⟩ : TSpan), (⟨476, 529, 2⟩ : TSpan), (⟨530, 532, 1⟩ : TSpan)] : List TSpan)) fun x226 =>
              some false
            else
              some false
          else
            some false
      else
        if ((x17.Lo == 476) && (x17.Hi == 500)) = true then
          if ((x20.Lo == 400) && (x20.Hi == 500)) = true then
            Option.bind (m_R02_SameSpans x23 ([(⟨470, 475, 0⟩ : TSpan), (⟨476, 529, 2⟩ : TSpan), (⟨530, 532, 1⟩ : TSpan)] : List TSpan)) fun x230 =>
            some false
          else
            some false
        else
          some false
    else
      if ((x17.Lo == 476) && (x17.Hi == 500)) = true then
        if ((x20.Lo == 400) && (x20.Hi == 500)) = true then
          Option.bind (m_R02_SameSpans x23 ([(⟨470, 475, 0⟩ : TSpan), (⟨476, 529, 2⟩ : TSpan), (⟨530, 532, 1⟩ : TSpan)] : List TSpan)) fun x234 =>
          some false
        else
          some false
      else
        some false
set_option maxRecDepth 100000 in
set_option maxHeartbeats 2000000 in
theorem d_L02_sane (r : Bool) (hm : m_L02_sane  = some r) : Does Try.prog 19 [] (fun x => x = DB r) := by
  refine does_y (X := ⟨Try.prog, tt, Try.f19.ntmps, pl19, [], [], []⟩) pok _ Try.func19 rfl rfl (Nat.le_of_ble_eq_true rfl) ?_
  obtain ⟨x1, hx2, hm⟩ := bd_some hm
  refine CallY.det (d_L02_example  _ hx2) ?_
  refine ⟨rfl, ?_⟩
  obtain ⟨e3, hx4, hm⟩ := bd_some hm
  refine ⟨_, el_idx (fun _ => rfl) hx4, ?_⟩
  obtain ⟨⟨x5, x6⟩, hx7, hm⟩ := bd_some hm
  refine CallY.det (d_moon_Margin e3 x1.Roofs 530 _ hx7) ?_
  obtain ⟨⟨x8, x9⟩, hx10, hm⟩ := bd_some hm
  refine CallY.det (d_moon_Slip x1 5 6 _ hx10) ?_
  obtain ⟨⟨x11, x12⟩, hx13, hm⟩ := bd_some hm
  refine CallY.det (d_moon_Conflict x1 5 7 _ hx13) ?_
  obtain ⟨⟨x14, x15⟩, hx16, hm⟩ := bd_some hm
  refine CallY.det (d_moon_Above x1 5 3 476 _ hx16) ?_
  obtain ⟨⟨x17, x18⟩, hx19, hm⟩ := bd_some hm
  refine CallY.det (d_moon_Rises x1 5 6 400 700 _ hx19) ?_
  obtain ⟨⟨x20, x21⟩, hx22, hm⟩ := bd_some hm
  refine CallY.det (d_moon_Whole x1 5 6 500 700 _ hx22) ?_
  obtain ⟨⟨x23, x24⟩, hx25, hm⟩ := bd_some hm
  refine CallY.det (d_moon_Spans x1 5 3 470 532 _ hx25) ?_
  refine VIf.mk (fun (h26 : (x6 == 0) = true) => ?_) (fun (h26 : (x6 == 0) = false) => ?_)
  · replace hm := if_t h26 hm
    refine VIf.mk (fun (h27 : (x9 == 0) = true) => ?_) (fun (h27 : (x9 == 0) = false) => ?_)
    · replace hm := if_t h27 hm
      refine VIf.mk (fun (h28 : (x12 == 0) = true) => ?_) (fun (h28 : (x12 == 0) = false) => ?_)
      · replace hm := if_t h28 hm
        refine VIf.mk (fun (h29 : (x15 == 0) = true) => ?_) (fun (h29 : (x15 == 0) = false) => ?_)
        · replace hm := if_t h29 hm
          refine VIf.mk (fun (h30 : (x18 == 0) = true) => ?_) (fun (h30 : (x18 == 0) = false) => ?_)
          · replace hm := if_t h30 hm
            refine VIf.mk (fun (h31 : (x21 == 0) = true) => ?_) (fun (h31 : (x21 == 0) = false) => ?_)
            · replace hm := if_t h31 hm
              refine ⟨rfl, ?_⟩
              obtain ⟨x32, hx33, hm⟩ := bd_some hm
              refine CallY.det (d_L02_of 3 _ hx33) ?_
              refine VIf.mk (fun (h34 : ((x5.Num == x32.Num) && (x5.Den == x32.Den)) = true) => ?_) (fun (h34 : ((x5.Num == x32.Num) && (x5.Den == x32.Den)) = false) => ?_)
              · replace hm := if_t h34 hm
                obtain ⟨x35, hx36, hm⟩ := bd_some hm
                refine CallY.det (d_L02_of 1 _ hx36) ?_
                obtain ⟨x37, hx38, hm⟩ := bd_some hm
                refine CallY.det (d_L02_of 2 _ hx38) ?_
                refine VIf.mk (fun (h39 : ((x8.Lo.Num == x35.Num) && ((x8.Lo.Den == x35.Den) && ((x8.Open == true) && ((x8.Hi.Num == x37.Num) && (x8.Hi.Den == x37.Den))))) = true) => ?_) (fun (h39 : ((x8.Lo.Num == x35.Num) && ((x8.Lo.Den == x35.Den) && ((x8.Open == true) && ((x8.Hi.Num == x37.Num) && (x8.Hi.Den == x37.Den))))) = false) => ?_)
                · replace hm := if_t h39 hm
                  refine ⟨([10, 11] : List Int).flatMap cI, ([10, 11] : List Int).length, ⟨rfl, rfl⟩, ?_⟩
                  obtain ⟨x40, hx41, hm⟩ := bd_some hm
                  refine CallOwn.det (d_R02_Same x11 (([10, 11] : List Int)) _ hx41) ?_
                  refine VIf.mk (fun (h42 : x40 = true) => ?_) (fun (h42 : x40 = false) => ?_)
                  · replace hm := if_t h42 hm
                    refine VIf.mk (fun (h43 : ((x17.Lo == 476) && (x17.Hi == 500)) = true) => ?_) (fun (h43 : ((x17.Lo == 476) && (x17.Hi == 500)) = false) => ?_)
                    · replace hm := if_t h43 hm
                      refine VIf.mk (fun (h44 : ((x20.Lo == 400) && (x20.Hi == 500)) = true) => ?_) (fun (h44 : ((x20.Lo == 400) && (x20.Hi == 500)) = false) => ?_)
                      · replace hm := if_t h44 hm
                        refine ⟨([(⟨470, 475, 0⟩ : TSpan), (⟨476, 529, 2⟩ : TSpan), (⟨530, 532, 1⟩ : TSpan)] : List TSpan).flatMap TSpan.c, ([(⟨470, 475, 0⟩ : TSpan), (⟨476, 529, 2⟩ : TSpan), (⟨530, 532, 1⟩ : TSpan)] : List TSpan).length, ⟨rfl, rfl⟩, ?_⟩
                        obtain ⟨x45, hx46, hm⟩ := bd_some hm
                        refine CallOwn.det (d_R02_SameSpans x23 (([(⟨470, 475, 0⟩ : TSpan), (⟨476, 529, 2⟩ : TSpan), (⟨530, 532, 1⟩ : TSpan)] : List TSpan)) _ hx46) ?_
                        refine VIf.mk (fun (h47 : (x24 == 0) = true) => ?_) (fun (h47 : (x24 == 0) = false) => ?_)
                        · replace hm := if_t h47 hm
                          refine VIf.mk (fun (h48 : (x14 == 2) = true) => ?_) (fun (h48 : (x14 == 2) = false) => ?_)
                          · replace hm := if_t h48 hm
                            cases hm
                            exact RetY.le (leD.refl _)
                          · replace hm := if_f h48 hm
                            cases hm
                            exact RetY.le (leD.refl _)
                        · replace hm := if_f h47 hm
                          cases hm
                          exact RetY.le (leD.refl _)
                      · replace hm := if_f h44 hm
                        refine VIf.mk (fun (h49 : (x24 == 0) = true) => ?_) (fun (h49 : (x24 == 0) = false) => ?_)
                        · replace hm := if_t h49 hm
                          refine VIf.mk (fun (h50 : (x14 == 2) = true) => ?_) (fun (h50 : (x14 == 2) = false) => ?_)
                          · replace hm := if_t h50 hm
                            cases hm
                            exact RetY.le (leD.refl _)
                          · replace hm := if_f h50 hm
                            cases hm
                            exact RetY.le (leD.refl _)
                        · replace hm := if_f h49 hm
                          cases hm
                          exact RetY.le (leD.refl _)
                    · replace hm := if_f h43 hm
                      refine VIf.mk (fun (h51 : (x24 == 0) = true) => ?_) (fun (h51 : (x24 == 0) = false) => ?_)
                      · replace hm := if_t h51 hm
                        refine VIf.mk (fun (h52 : (x14 == 2) = true) => ?_) (fun (h52 : (x14 == 2) = false) => ?_)
                        · replace hm := if_t h52 hm
                          cases hm
                          exact RetY.le (leD.refl _)
                        · replace hm := if_f h52 hm
                          cases hm
                          exact RetY.le (leD.refl _)
                      · replace hm := if_f h51 hm
                        cases hm
                        exact RetY.le (leD.refl _)
                  · replace hm := if_f h42 hm
                    refine VIf.mk (fun (h53 : ((x17.Lo == 476) && (x17.Hi == 500)) = true) => ?_) (fun (h53 : ((x17.Lo == 476) && (x17.Hi == 500)) = false) => ?_)
                    · replace hm := if_t h53 hm
                      refine VIf.mk (fun (h54 : ((x20.Lo == 400) && (x20.Hi == 500)) = true) => ?_) (fun (h54 : ((x20.Lo == 400) && (x20.Hi == 500)) = false) => ?_)
                      · replace hm := if_t h54 hm
                        refine ⟨([(⟨470, 475, 0⟩ : TSpan), (⟨476, 529, 2⟩ : TSpan), (⟨530, 532, 1⟩ : TSpan)] : List TSpan).flatMap TSpan.c, ([(⟨470, 475, 0⟩ : TSpan), (⟨476, 529, 2⟩ : TSpan), (⟨530, 532, 1⟩ : TSpan)] : List TSpan).length, ⟨rfl, rfl⟩, ?_⟩
                        obtain ⟨x55, hx56, hm⟩ := bd_some hm
                        refine CallOwn.det (d_R02_SameSpans x23 (([(⟨470, 475, 0⟩ : TSpan), (⟨476, 529, 2⟩ : TSpan), (⟨530, 532, 1⟩ : TSpan)] : List TSpan)) _ hx56) ?_
                        refine VIf.mk (fun (h57 : (x24 == 0) = true) => ?_) (fun (h57 : (x24 == 0) = false) => ?_)
                        · replace hm := if_t h57 hm
                          cases hm
                          exact RetY.le (leD.refl _)
                        · replace hm := if_f h57 hm
                          cases hm
                          exact RetY.le (leD.refl _)
                      · replace hm := if_f h54 hm
                        refine VIf.mk (fun (h58 : (x24 == 0) = true) => ?_) (fun (h58 : (x24 == 0) = false) => ?_)
                        · replace hm := if_t h58 hm
                          cases hm
                          exact RetY.le (leD.refl _)
                        · replace hm := if_f h58 hm
                          cases hm
                          exact RetY.le (leD.refl _)
                    · replace hm := if_f h53 hm
                      refine VIf.mk (fun (h59 : (x24 == 0) = true) => ?_) (fun (h59 : (x24 == 0) = false) => ?_)
                      · replace hm := if_t h59 hm
                        cases hm
                        exact RetY.le (leD.refl _)
                      · replace hm := if_f h59 hm
                        cases hm
                        exact RetY.le (leD.refl _)
                · replace hm := if_f h39 hm
                  refine VIf.mk (fun (h60 : ((x17.Lo == 476) && (x17.Hi == 500)) = true) => ?_) (fun (h60 : ((x17.Lo == 476) && (x17.Hi == 500)) = false) => ?_)
                  · replace hm := if_t h60 hm
                    refine VIf.mk (fun (h61 : ((x20.Lo == 400) && (x20.Hi == 500)) = true) => ?_) (fun (h61 : ((x20.Lo == 400) && (x20.Hi == 500)) = false) => ?_)
                    · replace hm := if_t h61 hm
                      refine ⟨([(⟨470, 475, 0⟩ : TSpan), (⟨476, 529, 2⟩ : TSpan), (⟨530, 532, 1⟩ : TSpan)] : List TSpan).flatMap TSpan.c, ([(⟨470, 475, 0⟩ : TSpan), (⟨476, 529, 2⟩ : TSpan), (⟨530, 532, 1⟩ : TSpan)] : List TSpan).length, ⟨rfl, rfl⟩, ?_⟩
                      obtain ⟨x62, hx63, hm⟩ := bd_some hm
                      refine CallOwn.det (d_R02_SameSpans x23 (([(⟨470, 475, 0⟩ : TSpan), (⟨476, 529, 2⟩ : TSpan), (⟨530, 532, 1⟩ : TSpan)] : List TSpan)) _ hx63) ?_
                      refine VIf.mk (fun (h64 : (x24 == 0) = true) => ?_) (fun (h64 : (x24 == 0) = false) => ?_)
                      · replace hm := if_t h64 hm
                        cases hm
                        exact RetY.le (leD.refl _)
                      · replace hm := if_f h64 hm
                        cases hm
                        exact RetY.le (leD.refl _)
                    · replace hm := if_f h61 hm
                      refine VIf.mk (fun (h65 : (x24 == 0) = true) => ?_) (fun (h65 : (x24 == 0) = false) => ?_)
                      · replace hm := if_t h65 hm
                        cases hm
                        exact RetY.le (leD.refl _)
                      · replace hm := if_f h65 hm
                        cases hm
                        exact RetY.le (leD.refl _)
                  · replace hm := if_f h60 hm
                    refine VIf.mk (fun (h66 : (x24 == 0) = true) => ?_) (fun (h66 : (x24 == 0) = false) => ?_)
                    · replace hm := if_t h66 hm
                      cases hm
                      exact RetY.le (leD.refl _)
                    · replace hm := if_f h66 hm
                      cases hm
                      exact RetY.le (leD.refl _)
              · replace hm := if_f h34 hm
                refine VIf.mk (fun (h67 : ((x17.Lo == 476) && (x17.Hi == 500)) = true) => ?_) (fun (h67 : ((x17.Lo == 476) && (x17.Hi == 500)) = false) => ?_)
                · replace hm := if_t h67 hm
                  refine VIf.mk (fun (h68 : ((x20.Lo == 400) && (x20.Hi == 500)) = true) => ?_) (fun (h68 : ((x20.Lo == 400) && (x20.Hi == 500)) = false) => ?_)
                  · replace hm := if_t h68 hm
                    refine ⟨([(⟨470, 475, 0⟩ : TSpan), (⟨476, 529, 2⟩ : TSpan), (⟨530, 532, 1⟩ : TSpan)] : List TSpan).flatMap TSpan.c, ([(⟨470, 475, 0⟩ : TSpan), (⟨476, 529, 2⟩ : TSpan), (⟨530, 532, 1⟩ : TSpan)] : List TSpan).length, ⟨rfl, rfl⟩, ?_⟩
                    obtain ⟨x69, hx70, hm⟩ := bd_some hm
                    refine CallOwn.det (d_R02_SameSpans x23 (([(⟨470, 475, 0⟩ : TSpan), (⟨476, 529, 2⟩ : TSpan), (⟨530, 532, 1⟩ : TSpan)] : List TSpan)) _ hx70) ?_
                    refine VIf.mk (fun (h71 : (x24 == 0) = true) => ?_) (fun (h71 : (x24 == 0) = false) => ?_)
                    · replace hm := if_t h71 hm
                      cases hm
                      exact RetY.le (leD.refl _)
                    · replace hm := if_f h71 hm
                      cases hm
                      exact RetY.le (leD.refl _)
                  · replace hm := if_f h68 hm
                    refine VIf.mk (fun (h72 : (x24 == 0) = true) => ?_) (fun (h72 : (x24 == 0) = false) => ?_)
                    · replace hm := if_t h72 hm
                      cases hm
                      exact RetY.le (leD.refl _)
                    · replace hm := if_f h72 hm
                      cases hm
                      exact RetY.le (leD.refl _)
                · replace hm := if_f h67 hm
                  refine VIf.mk (fun (h73 : (x24 == 0) = true) => ?_) (fun (h73 : (x24 == 0) = false) => ?_)
                  · replace hm := if_t h73 hm
                    cases hm
                    exact RetY.le (leD.refl _)
                  · replace hm := if_f h73 hm
                    cases hm
                    exact RetY.le (leD.refl _)
            · replace hm := if_f h31 hm
              refine ⟨rfl, ?_⟩
              obtain ⟨x74, hx75, hm⟩ := bd_some hm
              refine CallY.det (d_L02_of 3 _ hx75) ?_
              refine VIf.mk (fun (h76 : ((x5.Num == x74.Num) && (x5.Den == x74.Den)) = true) => ?_) (fun (h76 : ((x5.Num == x74.Num) && (x5.Den == x74.Den)) = false) => ?_)
              · replace hm := if_t h76 hm
                obtain ⟨x77, hx78, hm⟩ := bd_some hm
                refine CallY.det (d_L02_of 1 _ hx78) ?_
                obtain ⟨x79, hx80, hm⟩ := bd_some hm
                refine CallY.det (d_L02_of 2 _ hx80) ?_
                refine VIf.mk (fun (h81 : ((x8.Lo.Num == x77.Num) && ((x8.Lo.Den == x77.Den) && ((x8.Open == true) && ((x8.Hi.Num == x79.Num) && (x8.Hi.Den == x79.Den))))) = true) => ?_) (fun (h81 : ((x8.Lo.Num == x77.Num) && ((x8.Lo.Den == x77.Den) && ((x8.Open == true) && ((x8.Hi.Num == x79.Num) && (x8.Hi.Den == x79.Den))))) = false) => ?_)
                · replace hm := if_t h81 hm
                  refine ⟨([10, 11] : List Int).flatMap cI, ([10, 11] : List Int).length, ⟨rfl, rfl⟩, ?_⟩
                  obtain ⟨x82, hx83, hm⟩ := bd_some hm
                  refine CallOwn.det (d_R02_Same x11 (([10, 11] : List Int)) _ hx83) ?_
                  refine VIf.mk (fun (h84 : x82 = true) => ?_) (fun (h84 : x82 = false) => ?_)
                  · replace hm := if_t h84 hm
                    refine VIf.mk (fun (h85 : ((x17.Lo == 476) && (x17.Hi == 500)) = true) => ?_) (fun (h85 : ((x17.Lo == 476) && (x17.Hi == 500)) = false) => ?_)
                    · replace hm := if_t h85 hm
                      refine VIf.mk (fun (h86 : ((x20.Lo == 400) && (x20.Hi == 500)) = true) => ?_) (fun (h86 : ((x20.Lo == 400) && (x20.Hi == 500)) = false) => ?_)
                      · replace hm := if_t h86 hm
                        refine ⟨([(⟨470, 475, 0⟩ : TSpan), (⟨476, 529, 2⟩ : TSpan), (⟨530, 532, 1⟩ : TSpan)] : List TSpan).flatMap TSpan.c, ([(⟨470, 475, 0⟩ : TSpan), (⟨476, 529, 2⟩ : TSpan), (⟨530, 532, 1⟩ : TSpan)] : List TSpan).length, ⟨rfl, rfl⟩, ?_⟩
                        obtain ⟨x87, hx88, hm⟩ := bd_some hm
                        refine CallOwn.det (d_R02_SameSpans x23 (([(⟨470, 475, 0⟩ : TSpan), (⟨476, 529, 2⟩ : TSpan), (⟨530, 532, 1⟩ : TSpan)] : List TSpan)) _ hx88) ?_
                        cases hm
                        exact RetY.le (leD.refl _)
                      · replace hm := if_f h86 hm
                        cases hm
                        exact RetY.le (leD.refl _)
                    · replace hm := if_f h85 hm
                      cases hm
                      exact RetY.le (leD.refl _)
                  · replace hm := if_f h84 hm
                    refine VIf.mk (fun (h89 : ((x17.Lo == 476) && (x17.Hi == 500)) = true) => ?_) (fun (h89 : ((x17.Lo == 476) && (x17.Hi == 500)) = false) => ?_)
                    · replace hm := if_t h89 hm
                      refine VIf.mk (fun (h90 : ((x20.Lo == 400) && (x20.Hi == 500)) = true) => ?_) (fun (h90 : ((x20.Lo == 400) && (x20.Hi == 500)) = false) => ?_)
                      · replace hm := if_t h90 hm
                        refine ⟨([(⟨470, 475, 0⟩ : TSpan), (⟨476, 529, 2⟩ : TSpan), (⟨530, 532, 1⟩ : TSpan)] : List TSpan).flatMap TSpan.c, ([(⟨470, 475, 0⟩ : TSpan), (⟨476, 529, 2⟩ : TSpan), (⟨530, 532, 1⟩ : TSpan)] : List TSpan).length, ⟨rfl, rfl⟩, ?_⟩
                        obtain ⟨x91, hx92, hm⟩ := bd_some hm
                        refine CallOwn.det (d_R02_SameSpans x23 (([(⟨470, 475, 0⟩ : TSpan), (⟨476, 529, 2⟩ : TSpan), (⟨530, 532, 1⟩ : TSpan)] : List TSpan)) _ hx92) ?_
                        cases hm
                        exact RetY.le (leD.refl _)
                      · replace hm := if_f h90 hm
                        cases hm
                        exact RetY.le (leD.refl _)
                    · replace hm := if_f h89 hm
                      cases hm
                      exact RetY.le (leD.refl _)
                · replace hm := if_f h81 hm
                  refine VIf.mk (fun (h93 : ((x17.Lo == 476) && (x17.Hi == 500)) = true) => ?_) (fun (h93 : ((x17.Lo == 476) && (x17.Hi == 500)) = false) => ?_)
                  · replace hm := if_t h93 hm
                    refine VIf.mk (fun (h94 : ((x20.Lo == 400) && (x20.Hi == 500)) = true) => ?_) (fun (h94 : ((x20.Lo == 400) && (x20.Hi == 500)) = false) => ?_)
                    · replace hm := if_t h94 hm
                      refine ⟨([(⟨470, 475, 0⟩ : TSpan), (⟨476, 529, 2⟩ : TSpan), (⟨530, 532, 1⟩ : TSpan)] : List TSpan).flatMap TSpan.c, ([(⟨470, 475, 0⟩ : TSpan), (⟨476, 529, 2⟩ : TSpan), (⟨530, 532, 1⟩ : TSpan)] : List TSpan).length, ⟨rfl, rfl⟩, ?_⟩
                      obtain ⟨x95, hx96, hm⟩ := bd_some hm
                      refine CallOwn.det (d_R02_SameSpans x23 (([(⟨470, 475, 0⟩ : TSpan), (⟨476, 529, 2⟩ : TSpan), (⟨530, 532, 1⟩ : TSpan)] : List TSpan)) _ hx96) ?_
                      cases hm
                      exact RetY.le (leD.refl _)
                    · replace hm := if_f h94 hm
                      cases hm
                      exact RetY.le (leD.refl _)
                  · replace hm := if_f h93 hm
                    cases hm
                    exact RetY.le (leD.refl _)
              · replace hm := if_f h76 hm
                refine VIf.mk (fun (h97 : ((x17.Lo == 476) && (x17.Hi == 500)) = true) => ?_) (fun (h97 : ((x17.Lo == 476) && (x17.Hi == 500)) = false) => ?_)
                · replace hm := if_t h97 hm
                  refine VIf.mk (fun (h98 : ((x20.Lo == 400) && (x20.Hi == 500)) = true) => ?_) (fun (h98 : ((x20.Lo == 400) && (x20.Hi == 500)) = false) => ?_)
                  · replace hm := if_t h98 hm
                    refine ⟨([(⟨470, 475, 0⟩ : TSpan), (⟨476, 529, 2⟩ : TSpan), (⟨530, 532, 1⟩ : TSpan)] : List TSpan).flatMap TSpan.c, ([(⟨470, 475, 0⟩ : TSpan), (⟨476, 529, 2⟩ : TSpan), (⟨530, 532, 1⟩ : TSpan)] : List TSpan).length, ⟨rfl, rfl⟩, ?_⟩
                    obtain ⟨x99, hx100, hm⟩ := bd_some hm
                    refine CallOwn.det (d_R02_SameSpans x23 (([(⟨470, 475, 0⟩ : TSpan), (⟨476, 529, 2⟩ : TSpan), (⟨530, 532, 1⟩ : TSpan)] : List TSpan)) _ hx100) ?_
                    cases hm
                    exact RetY.le (leD.refl _)
                  · replace hm := if_f h98 hm
                    cases hm
                    exact RetY.le (leD.refl _)
                · replace hm := if_f h97 hm
                  cases hm
                  exact RetY.le (leD.refl _)
          · replace hm := if_f h30 hm
            refine ⟨rfl, ?_⟩
            obtain ⟨x101, hx102, hm⟩ := bd_some hm
            refine CallY.det (d_L02_of 3 _ hx102) ?_
            refine VIf.mk (fun (h103 : ((x5.Num == x101.Num) && (x5.Den == x101.Den)) = true) => ?_) (fun (h103 : ((x5.Num == x101.Num) && (x5.Den == x101.Den)) = false) => ?_)
            · replace hm := if_t h103 hm
              obtain ⟨x104, hx105, hm⟩ := bd_some hm
              refine CallY.det (d_L02_of 1 _ hx105) ?_
              obtain ⟨x106, hx107, hm⟩ := bd_some hm
              refine CallY.det (d_L02_of 2 _ hx107) ?_
              refine VIf.mk (fun (h108 : ((x8.Lo.Num == x104.Num) && ((x8.Lo.Den == x104.Den) && ((x8.Open == true) && ((x8.Hi.Num == x106.Num) && (x8.Hi.Den == x106.Den))))) = true) => ?_) (fun (h108 : ((x8.Lo.Num == x104.Num) && ((x8.Lo.Den == x104.Den) && ((x8.Open == true) && ((x8.Hi.Num == x106.Num) && (x8.Hi.Den == x106.Den))))) = false) => ?_)
              · replace hm := if_t h108 hm
                refine ⟨([10, 11] : List Int).flatMap cI, ([10, 11] : List Int).length, ⟨rfl, rfl⟩, ?_⟩
                obtain ⟨x109, hx110, hm⟩ := bd_some hm
                refine CallOwn.det (d_R02_Same x11 (([10, 11] : List Int)) _ hx110) ?_
                refine VIf.mk (fun (h111 : x109 = true) => ?_) (fun (h111 : x109 = false) => ?_)
                · replace hm := if_t h111 hm
                  refine VIf.mk (fun (h112 : ((x17.Lo == 476) && (x17.Hi == 500)) = true) => ?_) (fun (h112 : ((x17.Lo == 476) && (x17.Hi == 500)) = false) => ?_)
                  · replace hm := if_t h112 hm
                    refine VIf.mk (fun (h113 : ((x20.Lo == 400) && (x20.Hi == 500)) = true) => ?_) (fun (h113 : ((x20.Lo == 400) && (x20.Hi == 500)) = false) => ?_)
                    · replace hm := if_t h113 hm
                      refine ⟨([(⟨470, 475, 0⟩ : TSpan), (⟨476, 529, 2⟩ : TSpan), (⟨530, 532, 1⟩ : TSpan)] : List TSpan).flatMap TSpan.c, ([(⟨470, 475, 0⟩ : TSpan), (⟨476, 529, 2⟩ : TSpan), (⟨530, 532, 1⟩ : TSpan)] : List TSpan).length, ⟨rfl, rfl⟩, ?_⟩
                      obtain ⟨x114, hx115, hm⟩ := bd_some hm
                      refine CallOwn.det (d_R02_SameSpans x23 (([(⟨470, 475, 0⟩ : TSpan), (⟨476, 529, 2⟩ : TSpan), (⟨530, 532, 1⟩ : TSpan)] : List TSpan)) _ hx115) ?_
                      cases hm
                      exact RetY.le (leD.refl _)
                    · replace hm := if_f h113 hm
                      cases hm
                      exact RetY.le (leD.refl _)
                  · replace hm := if_f h112 hm
                    cases hm
                    exact RetY.le (leD.refl _)
                · replace hm := if_f h111 hm
                  refine VIf.mk (fun (h116 : ((x17.Lo == 476) && (x17.Hi == 500)) = true) => ?_) (fun (h116 : ((x17.Lo == 476) && (x17.Hi == 500)) = false) => ?_)
                  · replace hm := if_t h116 hm
                    refine VIf.mk (fun (h117 : ((x20.Lo == 400) && (x20.Hi == 500)) = true) => ?_) (fun (h117 : ((x20.Lo == 400) && (x20.Hi == 500)) = false) => ?_)
                    · replace hm := if_t h117 hm
                      refine ⟨([(⟨470, 475, 0⟩ : TSpan), (⟨476, 529, 2⟩ : TSpan), (⟨530, 532, 1⟩ : TSpan)] : List TSpan).flatMap TSpan.c, ([(⟨470, 475, 0⟩ : TSpan), (⟨476, 529, 2⟩ : TSpan), (⟨530, 532, 1⟩ : TSpan)] : List TSpan).length, ⟨rfl, rfl⟩, ?_⟩
                      obtain ⟨x118, hx119, hm⟩ := bd_some hm
                      refine CallOwn.det (d_R02_SameSpans x23 (([(⟨470, 475, 0⟩ : TSpan), (⟨476, 529, 2⟩ : TSpan), (⟨530, 532, 1⟩ : TSpan)] : List TSpan)) _ hx119) ?_
                      cases hm
                      exact RetY.le (leD.refl _)
                    · replace hm := if_f h117 hm
                      cases hm
                      exact RetY.le (leD.refl _)
                  · replace hm := if_f h116 hm
                    cases hm
                    exact RetY.le (leD.refl _)
              · replace hm := if_f h108 hm
                refine VIf.mk (fun (h120 : ((x17.Lo == 476) && (x17.Hi == 500)) = true) => ?_) (fun (h120 : ((x17.Lo == 476) && (x17.Hi == 500)) = false) => ?_)
                · replace hm := if_t h120 hm
                  refine VIf.mk (fun (h121 : ((x20.Lo == 400) && (x20.Hi == 500)) = true) => ?_) (fun (h121 : ((x20.Lo == 400) && (x20.Hi == 500)) = false) => ?_)
                  · replace hm := if_t h121 hm
                    refine ⟨([(⟨470, 475, 0⟩ : TSpan), (⟨476, 529, 2⟩ : TSpan), (⟨530, 532, 1⟩ : TSpan)] : List TSpan).flatMap TSpan.c, ([(⟨470, 475, 0⟩ : TSpan), (⟨476, 529, 2⟩ : TSpan), (⟨530, 532, 1⟩ : TSpan)] : List TSpan).length, ⟨rfl, rfl⟩, ?_⟩
                    obtain ⟨x122, hx123, hm⟩ := bd_some hm
                    refine CallOwn.det (d_R02_SameSpans x23 (([(⟨470, 475, 0⟩ : TSpan), (⟨476, 529, 2⟩ : TSpan), (⟨530, 532, 1⟩ : TSpan)] : List TSpan)) _ hx123) ?_
                    cases hm
                    exact RetY.le (leD.refl _)
                  · replace hm := if_f h121 hm
                    cases hm
                    exact RetY.le (leD.refl _)
                · replace hm := if_f h120 hm
                  cases hm
                  exact RetY.le (leD.refl _)
            · replace hm := if_f h103 hm
              refine VIf.mk (fun (h124 : ((x17.Lo == 476) && (x17.Hi == 500)) = true) => ?_) (fun (h124 : ((x17.Lo == 476) && (x17.Hi == 500)) = false) => ?_)
              · replace hm := if_t h124 hm
                refine VIf.mk (fun (h125 : ((x20.Lo == 400) && (x20.Hi == 500)) = true) => ?_) (fun (h125 : ((x20.Lo == 400) && (x20.Hi == 500)) = false) => ?_)
                · replace hm := if_t h125 hm
                  refine ⟨([(⟨470, 475, 0⟩ : TSpan), (⟨476, 529, 2⟩ : TSpan), (⟨530, 532, 1⟩ : TSpan)] : List TSpan).flatMap TSpan.c, ([(⟨470, 475, 0⟩ : TSpan), (⟨476, 529, 2⟩ : TSpan), (⟨530, 532, 1⟩ : TSpan)] : List TSpan).length, ⟨rfl, rfl⟩, ?_⟩
                  obtain ⟨x126, hx127, hm⟩ := bd_some hm
                  refine CallOwn.det (d_R02_SameSpans x23 (([(⟨470, 475, 0⟩ : TSpan), (⟨476, 529, 2⟩ : TSpan), (⟨530, 532, 1⟩ : TSpan)] : List TSpan)) _ hx127) ?_
                  cases hm
                  exact RetY.le (leD.refl _)
                · replace hm := if_f h125 hm
                  cases hm
                  exact RetY.le (leD.refl _)
              · replace hm := if_f h124 hm
                cases hm
                exact RetY.le (leD.refl _)
        · replace hm := if_f h29 hm
          refine ⟨rfl, ?_⟩
          obtain ⟨x128, hx129, hm⟩ := bd_some hm
          refine CallY.det (d_L02_of 3 _ hx129) ?_
          refine VIf.mk (fun (h130 : ((x5.Num == x128.Num) && (x5.Den == x128.Den)) = true) => ?_) (fun (h130 : ((x5.Num == x128.Num) && (x5.Den == x128.Den)) = false) => ?_)
          · replace hm := if_t h130 hm
            obtain ⟨x131, hx132, hm⟩ := bd_some hm
            refine CallY.det (d_L02_of 1 _ hx132) ?_
            obtain ⟨x133, hx134, hm⟩ := bd_some hm
            refine CallY.det (d_L02_of 2 _ hx134) ?_
            refine VIf.mk (fun (h135 : ((x8.Lo.Num == x131.Num) && ((x8.Lo.Den == x131.Den) && ((x8.Open == true) && ((x8.Hi.Num == x133.Num) && (x8.Hi.Den == x133.Den))))) = true) => ?_) (fun (h135 : ((x8.Lo.Num == x131.Num) && ((x8.Lo.Den == x131.Den) && ((x8.Open == true) && ((x8.Hi.Num == x133.Num) && (x8.Hi.Den == x133.Den))))) = false) => ?_)
            · replace hm := if_t h135 hm
              refine ⟨([10, 11] : List Int).flatMap cI, ([10, 11] : List Int).length, ⟨rfl, rfl⟩, ?_⟩
              obtain ⟨x136, hx137, hm⟩ := bd_some hm
              refine CallOwn.det (d_R02_Same x11 (([10, 11] : List Int)) _ hx137) ?_
              refine VIf.mk (fun (h138 : x136 = true) => ?_) (fun (h138 : x136 = false) => ?_)
              · replace hm := if_t h138 hm
                refine VIf.mk (fun (h139 : ((x17.Lo == 476) && (x17.Hi == 500)) = true) => ?_) (fun (h139 : ((x17.Lo == 476) && (x17.Hi == 500)) = false) => ?_)
                · replace hm := if_t h139 hm
                  refine VIf.mk (fun (h140 : ((x20.Lo == 400) && (x20.Hi == 500)) = true) => ?_) (fun (h140 : ((x20.Lo == 400) && (x20.Hi == 500)) = false) => ?_)
                  · replace hm := if_t h140 hm
                    refine ⟨([(⟨470, 475, 0⟩ : TSpan), (⟨476, 529, 2⟩ : TSpan), (⟨530, 532, 1⟩ : TSpan)] : List TSpan).flatMap TSpan.c, ([(⟨470, 475, 0⟩ : TSpan), (⟨476, 529, 2⟩ : TSpan), (⟨530, 532, 1⟩ : TSpan)] : List TSpan).length, ⟨rfl, rfl⟩, ?_⟩
                    obtain ⟨x141, hx142, hm⟩ := bd_some hm
                    refine CallOwn.det (d_R02_SameSpans x23 (([(⟨470, 475, 0⟩ : TSpan), (⟨476, 529, 2⟩ : TSpan), (⟨530, 532, 1⟩ : TSpan)] : List TSpan)) _ hx142) ?_
                    cases hm
                    exact RetY.le (leD.refl _)
                  · replace hm := if_f h140 hm
                    cases hm
                    exact RetY.le (leD.refl _)
                · replace hm := if_f h139 hm
                  cases hm
                  exact RetY.le (leD.refl _)
              · replace hm := if_f h138 hm
                refine VIf.mk (fun (h143 : ((x17.Lo == 476) && (x17.Hi == 500)) = true) => ?_) (fun (h143 : ((x17.Lo == 476) && (x17.Hi == 500)) = false) => ?_)
                · replace hm := if_t h143 hm
                  refine VIf.mk (fun (h144 : ((x20.Lo == 400) && (x20.Hi == 500)) = true) => ?_) (fun (h144 : ((x20.Lo == 400) && (x20.Hi == 500)) = false) => ?_)
                  · replace hm := if_t h144 hm
                    refine ⟨([(⟨470, 475, 0⟩ : TSpan), (⟨476, 529, 2⟩ : TSpan), (⟨530, 532, 1⟩ : TSpan)] : List TSpan).flatMap TSpan.c, ([(⟨470, 475, 0⟩ : TSpan), (⟨476, 529, 2⟩ : TSpan), (⟨530, 532, 1⟩ : TSpan)] : List TSpan).length, ⟨rfl, rfl⟩, ?_⟩
                    obtain ⟨x145, hx146, hm⟩ := bd_some hm
                    refine CallOwn.det (d_R02_SameSpans x23 (([(⟨470, 475, 0⟩ : TSpan), (⟨476, 529, 2⟩ : TSpan), (⟨530, 532, 1⟩ : TSpan)] : List TSpan)) _ hx146) ?_
                    cases hm
                    exact RetY.le (leD.refl _)
                  · replace hm := if_f h144 hm
                    cases hm
                    exact RetY.le (leD.refl _)
                · replace hm := if_f h143 hm
                  cases hm
                  exact RetY.le (leD.refl _)
            · replace hm := if_f h135 hm
              refine VIf.mk (fun (h147 : ((x17.Lo == 476) && (x17.Hi == 500)) = true) => ?_) (fun (h147 : ((x17.Lo == 476) && (x17.Hi == 500)) = false) => ?_)
              · replace hm := if_t h147 hm
                refine VIf.mk (fun (h148 : ((x20.Lo == 400) && (x20.Hi == 500)) = true) => ?_) (fun (h148 : ((x20.Lo == 400) && (x20.Hi == 500)) = false) => ?_)
                · replace hm := if_t h148 hm
                  refine ⟨([(⟨470, 475, 0⟩ : TSpan), (⟨476, 529, 2⟩ : TSpan), (⟨530, 532, 1⟩ : TSpan)] : List TSpan).flatMap TSpan.c, ([(⟨470, 475, 0⟩ : TSpan), (⟨476, 529, 2⟩ : TSpan), (⟨530, 532, 1⟩ : TSpan)] : List TSpan).length, ⟨rfl, rfl⟩, ?_⟩
                  obtain ⟨x149, hx150, hm⟩ := bd_some hm
                  refine CallOwn.det (d_R02_SameSpans x23 (([(⟨470, 475, 0⟩ : TSpan), (⟨476, 529, 2⟩ : TSpan), (⟨530, 532, 1⟩ : TSpan)] : List TSpan)) _ hx150) ?_
                  cases hm
                  exact RetY.le (leD.refl _)
                · replace hm := if_f h148 hm
                  cases hm
                  exact RetY.le (leD.refl _)
              · replace hm := if_f h147 hm
                cases hm
                exact RetY.le (leD.refl _)
          · replace hm := if_f h130 hm
            refine VIf.mk (fun (h151 : ((x17.Lo == 476) && (x17.Hi == 500)) = true) => ?_) (fun (h151 : ((x17.Lo == 476) && (x17.Hi == 500)) = false) => ?_)
            · replace hm := if_t h151 hm
              refine VIf.mk (fun (h152 : ((x20.Lo == 400) && (x20.Hi == 500)) = true) => ?_) (fun (h152 : ((x20.Lo == 400) && (x20.Hi == 500)) = false) => ?_)
              · replace hm := if_t h152 hm
                refine ⟨([(⟨470, 475, 0⟩ : TSpan), (⟨476, 529, 2⟩ : TSpan), (⟨530, 532, 1⟩ : TSpan)] : List TSpan).flatMap TSpan.c, ([(⟨470, 475, 0⟩ : TSpan), (⟨476, 529, 2⟩ : TSpan), (⟨530, 532, 1⟩ : TSpan)] : List TSpan).length, ⟨rfl, rfl⟩, ?_⟩
                obtain ⟨x153, hx154, hm⟩ := bd_some hm
                refine CallOwn.det (d_R02_SameSpans x23 (([(⟨470, 475, 0⟩ : TSpan), (⟨476, 529, 2⟩ : TSpan), (⟨530, 532, 1⟩ : TSpan)] : List TSpan)) _ hx154) ?_
                cases hm
                exact RetY.le (leD.refl _)
              · replace hm := if_f h152 hm
                cases hm
                exact RetY.le (leD.refl _)
            · replace hm := if_f h151 hm
              cases hm
              exact RetY.le (leD.refl _)
      · replace hm := if_f h28 hm
        refine ⟨rfl, ?_⟩
        obtain ⟨x155, hx156, hm⟩ := bd_some hm
        refine CallY.det (d_L02_of 3 _ hx156) ?_
        refine VIf.mk (fun (h157 : ((x5.Num == x155.Num) && (x5.Den == x155.Den)) = true) => ?_) (fun (h157 : ((x5.Num == x155.Num) && (x5.Den == x155.Den)) = false) => ?_)
        · replace hm := if_t h157 hm
          obtain ⟨x158, hx159, hm⟩ := bd_some hm
          refine CallY.det (d_L02_of 1 _ hx159) ?_
          obtain ⟨x160, hx161, hm⟩ := bd_some hm
          refine CallY.det (d_L02_of 2 _ hx161) ?_
          refine VIf.mk (fun (h162 : ((x8.Lo.Num == x158.Num) && ((x8.Lo.Den == x158.Den) && ((x8.Open == true) && ((x8.Hi.Num == x160.Num) && (x8.Hi.Den == x160.Den))))) = true) => ?_) (fun (h162 : ((x8.Lo.Num == x158.Num) && ((x8.Lo.Den == x158.Den) && ((x8.Open == true) && ((x8.Hi.Num == x160.Num) && (x8.Hi.Den == x160.Den))))) = false) => ?_)
          · replace hm := if_t h162 hm
            refine ⟨([10, 11] : List Int).flatMap cI, ([10, 11] : List Int).length, ⟨rfl, rfl⟩, ?_⟩
            obtain ⟨x163, hx164, hm⟩ := bd_some hm
            refine CallOwn.det (d_R02_Same x11 (([10, 11] : List Int)) _ hx164) ?_
            refine VIf.mk (fun (h165 : x163 = true) => ?_) (fun (h165 : x163 = false) => ?_)
            · replace hm := if_t h165 hm
              refine VIf.mk (fun (h166 : ((x17.Lo == 476) && (x17.Hi == 500)) = true) => ?_) (fun (h166 : ((x17.Lo == 476) && (x17.Hi == 500)) = false) => ?_)
              · replace hm := if_t h166 hm
                refine VIf.mk (fun (h167 : ((x20.Lo == 400) && (x20.Hi == 500)) = true) => ?_) (fun (h167 : ((x20.Lo == 400) && (x20.Hi == 500)) = false) => ?_)
                · replace hm := if_t h167 hm
                  refine ⟨([(⟨470, 475, 0⟩ : TSpan), (⟨476, 529, 2⟩ : TSpan), (⟨530, 532, 1⟩ : TSpan)] : List TSpan).flatMap TSpan.c, ([(⟨470, 475, 0⟩ : TSpan), (⟨476, 529, 2⟩ : TSpan), (⟨530, 532, 1⟩ : TSpan)] : List TSpan).length, ⟨rfl, rfl⟩, ?_⟩
                  obtain ⟨x168, hx169, hm⟩ := bd_some hm
                  refine CallOwn.det (d_R02_SameSpans x23 (([(⟨470, 475, 0⟩ : TSpan), (⟨476, 529, 2⟩ : TSpan), (⟨530, 532, 1⟩ : TSpan)] : List TSpan)) _ hx169) ?_
                  cases hm
                  exact RetY.le (leD.refl _)
                · replace hm := if_f h167 hm
                  cases hm
                  exact RetY.le (leD.refl _)
              · replace hm := if_f h166 hm
                cases hm
                exact RetY.le (leD.refl _)
            · replace hm := if_f h165 hm
              refine VIf.mk (fun (h170 : ((x17.Lo == 476) && (x17.Hi == 500)) = true) => ?_) (fun (h170 : ((x17.Lo == 476) && (x17.Hi == 500)) = false) => ?_)
              · replace hm := if_t h170 hm
                refine VIf.mk (fun (h171 : ((x20.Lo == 400) && (x20.Hi == 500)) = true) => ?_) (fun (h171 : ((x20.Lo == 400) && (x20.Hi == 500)) = false) => ?_)
                · replace hm := if_t h171 hm
                  refine ⟨([(⟨470, 475, 0⟩ : TSpan), (⟨476, 529, 2⟩ : TSpan), (⟨530, 532, 1⟩ : TSpan)] : List TSpan).flatMap TSpan.c, ([(⟨470, 475, 0⟩ : TSpan), (⟨476, 529, 2⟩ : TSpan), (⟨530, 532, 1⟩ : TSpan)] : List TSpan).length, ⟨rfl, rfl⟩, ?_⟩
                  obtain ⟨x172, hx173, hm⟩ := bd_some hm
                  refine CallOwn.det (d_R02_SameSpans x23 (([(⟨470, 475, 0⟩ : TSpan), (⟨476, 529, 2⟩ : TSpan), (⟨530, 532, 1⟩ : TSpan)] : List TSpan)) _ hx173) ?_
                  cases hm
                  exact RetY.le (leD.refl _)
                · replace hm := if_f h171 hm
                  cases hm
                  exact RetY.le (leD.refl _)
              · replace hm := if_f h170 hm
                cases hm
                exact RetY.le (leD.refl _)
          · replace hm := if_f h162 hm
            refine VIf.mk (fun (h174 : ((x17.Lo == 476) && (x17.Hi == 500)) = true) => ?_) (fun (h174 : ((x17.Lo == 476) && (x17.Hi == 500)) = false) => ?_)
            · replace hm := if_t h174 hm
              refine VIf.mk (fun (h175 : ((x20.Lo == 400) && (x20.Hi == 500)) = true) => ?_) (fun (h175 : ((x20.Lo == 400) && (x20.Hi == 500)) = false) => ?_)
              · replace hm := if_t h175 hm
                refine ⟨([(⟨470, 475, 0⟩ : TSpan), (⟨476, 529, 2⟩ : TSpan), (⟨530, 532, 1⟩ : TSpan)] : List TSpan).flatMap TSpan.c, ([(⟨470, 475, 0⟩ : TSpan), (⟨476, 529, 2⟩ : TSpan), (⟨530, 532, 1⟩ : TSpan)] : List TSpan).length, ⟨rfl, rfl⟩, ?_⟩
                obtain ⟨x176, hx177, hm⟩ := bd_some hm
                refine CallOwn.det (d_R02_SameSpans x23 (([(⟨470, 475, 0⟩ : TSpan), (⟨476, 529, 2⟩ : TSpan), (⟨530, 532, 1⟩ : TSpan)] : List TSpan)) _ hx177) ?_
                cases hm
                exact RetY.le (leD.refl _)
              · replace hm := if_f h175 hm
                cases hm
                exact RetY.le (leD.refl _)
            · replace hm := if_f h174 hm
              cases hm
              exact RetY.le (leD.refl _)
        · replace hm := if_f h157 hm
          refine VIf.mk (fun (h178 : ((x17.Lo == 476) && (x17.Hi == 500)) = true) => ?_) (fun (h178 : ((x17.Lo == 476) && (x17.Hi == 500)) = false) => ?_)
          · replace hm := if_t h178 hm
            refine VIf.mk (fun (h179 : ((x20.Lo == 400) && (x20.Hi == 500)) = true) => ?_) (fun (h179 : ((x20.Lo == 400) && (x20.Hi == 500)) = false) => ?_)
            · replace hm := if_t h179 hm
              refine ⟨([(⟨470, 475, 0⟩ : TSpan), (⟨476, 529, 2⟩ : TSpan), (⟨530, 532, 1⟩ : TSpan)] : List TSpan).flatMap TSpan.c, ([(⟨470, 475, 0⟩ : TSpan), (⟨476, 529, 2⟩ : TSpan), (⟨530, 532, 1⟩ : TSpan)] : List TSpan).length, ⟨rfl, rfl⟩, ?_⟩
              obtain ⟨x180, hx181, hm⟩ := bd_some hm
              refine CallOwn.det (d_R02_SameSpans x23 (([(⟨470, 475, 0⟩ : TSpan), (⟨476, 529, 2⟩ : TSpan), (⟨530, 532, 1⟩ : TSpan)] : List TSpan)) _ hx181) ?_
              cases hm
              exact RetY.le (leD.refl _)
            · replace hm := if_f h179 hm
              cases hm
              exact RetY.le (leD.refl _)
          · replace hm := if_f h178 hm
            cases hm
            exact RetY.le (leD.refl _)
    · replace hm := if_f h27 hm
      refine ⟨rfl, ?_⟩
      obtain ⟨x182, hx183, hm⟩ := bd_some hm
      refine CallY.det (d_L02_of 3 _ hx183) ?_
      refine VIf.mk (fun (h184 : ((x5.Num == x182.Num) && (x5.Den == x182.Den)) = true) => ?_) (fun (h184 : ((x5.Num == x182.Num) && (x5.Den == x182.Den)) = false) => ?_)
      · replace hm := if_t h184 hm
        obtain ⟨x185, hx186, hm⟩ := bd_some hm
        refine CallY.det (d_L02_of 1 _ hx186) ?_
        obtain ⟨x187, hx188, hm⟩ := bd_some hm
        refine CallY.det (d_L02_of 2 _ hx188) ?_
        refine VIf.mk (fun (h189 : ((x8.Lo.Num == x185.Num) && ((x8.Lo.Den == x185.Den) && ((x8.Open == true) && ((x8.Hi.Num == x187.Num) && (x8.Hi.Den == x187.Den))))) = true) => ?_) (fun (h189 : ((x8.Lo.Num == x185.Num) && ((x8.Lo.Den == x185.Den) && ((x8.Open == true) && ((x8.Hi.Num == x187.Num) && (x8.Hi.Den == x187.Den))))) = false) => ?_)
        · replace hm := if_t h189 hm
          refine ⟨([10, 11] : List Int).flatMap cI, ([10, 11] : List Int).length, ⟨rfl, rfl⟩, ?_⟩
          obtain ⟨x190, hx191, hm⟩ := bd_some hm
          refine CallOwn.det (d_R02_Same x11 (([10, 11] : List Int)) _ hx191) ?_
          refine VIf.mk (fun (h192 : x190 = true) => ?_) (fun (h192 : x190 = false) => ?_)
          · replace hm := if_t h192 hm
            refine VIf.mk (fun (h193 : ((x17.Lo == 476) && (x17.Hi == 500)) = true) => ?_) (fun (h193 : ((x17.Lo == 476) && (x17.Hi == 500)) = false) => ?_)
            · replace hm := if_t h193 hm
              refine VIf.mk (fun (h194 : ((x20.Lo == 400) && (x20.Hi == 500)) = true) => ?_) (fun (h194 : ((x20.Lo == 400) && (x20.Hi == 500)) = false) => ?_)
              · replace hm := if_t h194 hm
                refine ⟨([(⟨470, 475, 0⟩ : TSpan), (⟨476, 529, 2⟩ : TSpan), (⟨530, 532, 1⟩ : TSpan)] : List TSpan).flatMap TSpan.c, ([(⟨470, 475, 0⟩ : TSpan), (⟨476, 529, 2⟩ : TSpan), (⟨530, 532, 1⟩ : TSpan)] : List TSpan).length, ⟨rfl, rfl⟩, ?_⟩
                obtain ⟨x195, hx196, hm⟩ := bd_some hm
                refine CallOwn.det (d_R02_SameSpans x23 (([(⟨470, 475, 0⟩ : TSpan), (⟨476, 529, 2⟩ : TSpan), (⟨530, 532, 1⟩ : TSpan)] : List TSpan)) _ hx196) ?_
                cases hm
                exact RetY.le (leD.refl _)
              · replace hm := if_f h194 hm
                cases hm
                exact RetY.le (leD.refl _)
            · replace hm := if_f h193 hm
              cases hm
              exact RetY.le (leD.refl _)
          · replace hm := if_f h192 hm
            refine VIf.mk (fun (h197 : ((x17.Lo == 476) && (x17.Hi == 500)) = true) => ?_) (fun (h197 : ((x17.Lo == 476) && (x17.Hi == 500)) = false) => ?_)
            · replace hm := if_t h197 hm
              refine VIf.mk (fun (h198 : ((x20.Lo == 400) && (x20.Hi == 500)) = true) => ?_) (fun (h198 : ((x20.Lo == 400) && (x20.Hi == 500)) = false) => ?_)
              · replace hm := if_t h198 hm
                refine ⟨([(⟨470, 475, 0⟩ : TSpan), (⟨476, 529, 2⟩ : TSpan), (⟨530, 532, 1⟩ : TSpan)] : List TSpan).flatMap TSpan.c, ([(⟨470, 475, 0⟩ : TSpan), (⟨476, 529, 2⟩ : TSpan), (⟨530, 532, 1⟩ : TSpan)] : List TSpan).length, ⟨rfl, rfl⟩, ?_⟩
                obtain ⟨x199, hx200, hm⟩ := bd_some hm
                refine CallOwn.det (d_R02_SameSpans x23 (([(⟨470, 475, 0⟩ : TSpan), (⟨476, 529, 2⟩ : TSpan), (⟨530, 532, 1⟩ : TSpan)] : List TSpan)) _ hx200) ?_
                cases hm
                exact RetY.le (leD.refl _)
              · replace hm := if_f h198 hm
                cases hm
                exact RetY.le (leD.refl _)
            · replace hm := if_f h197 hm
              cases hm
              exact RetY.le (leD.refl _)
        · replace hm := if_f h189 hm
          refine VIf.mk (fun (h201 : ((x17.Lo == 476) && (x17.Hi == 500)) = true) => ?_) (fun (h201 : ((x17.Lo == 476) && (x17.Hi == 500)) = false) => ?_)
          · replace hm := if_t h201 hm
            refine VIf.mk (fun (h202 : ((x20.Lo == 400) && (x20.Hi == 500)) = true) => ?_) (fun (h202 : ((x20.Lo == 400) && (x20.Hi == 500)) = false) => ?_)
            · replace hm := if_t h202 hm
              refine ⟨([(⟨470, 475, 0⟩ : TSpan), (⟨476, 529, 2⟩ : TSpan), (⟨530, 532, 1⟩ : TSpan)] : List TSpan).flatMap TSpan.c, ([(⟨470, 475, 0⟩ : TSpan), (⟨476, 529, 2⟩ : TSpan), (⟨530, 532, 1⟩ : TSpan)] : List TSpan).length, ⟨rfl, rfl⟩, ?_⟩
              obtain ⟨x203, hx204, hm⟩ := bd_some hm
              refine CallOwn.det (d_R02_SameSpans x23 (([(⟨470, 475, 0⟩ : TSpan), (⟨476, 529, 2⟩ : TSpan), (⟨530, 532, 1⟩ : TSpan)] : List TSpan)) _ hx204) ?_
              cases hm
              exact RetY.le (leD.refl _)
            · replace hm := if_f h202 hm
              cases hm
              exact RetY.le (leD.refl _)
          · replace hm := if_f h201 hm
            cases hm
            exact RetY.le (leD.refl _)
      · replace hm := if_f h184 hm
        refine VIf.mk (fun (h205 : ((x17.Lo == 476) && (x17.Hi == 500)) = true) => ?_) (fun (h205 : ((x17.Lo == 476) && (x17.Hi == 500)) = false) => ?_)
        · replace hm := if_t h205 hm
          refine VIf.mk (fun (h206 : ((x20.Lo == 400) && (x20.Hi == 500)) = true) => ?_) (fun (h206 : ((x20.Lo == 400) && (x20.Hi == 500)) = false) => ?_)
          · replace hm := if_t h206 hm
            refine ⟨([(⟨470, 475, 0⟩ : TSpan), (⟨476, 529, 2⟩ : TSpan), (⟨530, 532, 1⟩ : TSpan)] : List TSpan).flatMap TSpan.c, ([(⟨470, 475, 0⟩ : TSpan), (⟨476, 529, 2⟩ : TSpan), (⟨530, 532, 1⟩ : TSpan)] : List TSpan).length, ⟨rfl, rfl⟩, ?_⟩
            obtain ⟨x207, hx208, hm⟩ := bd_some hm
            refine CallOwn.det (d_R02_SameSpans x23 (([(⟨470, 475, 0⟩ : TSpan), (⟨476, 529, 2⟩ : TSpan), (⟨530, 532, 1⟩ : TSpan)] : List TSpan)) _ hx208) ?_
            cases hm
            exact RetY.le (leD.refl _)
          · replace hm := if_f h206 hm
            cases hm
            exact RetY.le (leD.refl _)
        · replace hm := if_f h205 hm
          cases hm
          exact RetY.le (leD.refl _)
  · replace hm := if_f h26 hm
    refine ⟨rfl, ?_⟩
    obtain ⟨x209, hx210, hm⟩ := bd_some hm
    refine CallY.det (d_L02_of 3 _ hx210) ?_
    refine VIf.mk (fun (h211 : ((x5.Num == x209.Num) && (x5.Den == x209.Den)) = true) => ?_) (fun (h211 : ((x5.Num == x209.Num) && (x5.Den == x209.Den)) = false) => ?_)
    · replace hm := if_t h211 hm
      obtain ⟨x212, hx213, hm⟩ := bd_some hm
      refine CallY.det (d_L02_of 1 _ hx213) ?_
      obtain ⟨x214, hx215, hm⟩ := bd_some hm
      refine CallY.det (d_L02_of 2 _ hx215) ?_
      refine VIf.mk (fun (h216 : ((x8.Lo.Num == x212.Num) && ((x8.Lo.Den == x212.Den) && ((x8.Open == true) && ((x8.Hi.Num == x214.Num) && (x8.Hi.Den == x214.Den))))) = true) => ?_) (fun (h216 : ((x8.Lo.Num == x212.Num) && ((x8.Lo.Den == x212.Den) && ((x8.Open == true) && ((x8.Hi.Num == x214.Num) && (x8.Hi.Den == x214.Den))))) = false) => ?_)
      · replace hm := if_t h216 hm
        refine ⟨([10, 11] : List Int).flatMap cI, ([10, 11] : List Int).length, ⟨rfl, rfl⟩, ?_⟩
        obtain ⟨x217, hx218, hm⟩ := bd_some hm
        refine CallOwn.det (d_R02_Same x11 (([10, 11] : List Int)) _ hx218) ?_
        refine VIf.mk (fun (h219 : x217 = true) => ?_) (fun (h219 : x217 = false) => ?_)
        · replace hm := if_t h219 hm
          refine VIf.mk (fun (h220 : ((x17.Lo == 476) && (x17.Hi == 500)) = true) => ?_) (fun (h220 : ((x17.Lo == 476) && (x17.Hi == 500)) = false) => ?_)
          · replace hm := if_t h220 hm
            refine VIf.mk (fun (h221 : ((x20.Lo == 400) && (x20.Hi == 500)) = true) => ?_) (fun (h221 : ((x20.Lo == 400) && (x20.Hi == 500)) = false) => ?_)
            · replace hm := if_t h221 hm
              refine ⟨([(⟨470, 475, 0⟩ : TSpan), (⟨476, 529, 2⟩ : TSpan), (⟨530, 532, 1⟩ : TSpan)] : List TSpan).flatMap TSpan.c, ([(⟨470, 475, 0⟩ : TSpan), (⟨476, 529, 2⟩ : TSpan), (⟨530, 532, 1⟩ : TSpan)] : List TSpan).length, ⟨rfl, rfl⟩, ?_⟩
              obtain ⟨x222, hx223, hm⟩ := bd_some hm
              refine CallOwn.det (d_R02_SameSpans x23 (([(⟨470, 475, 0⟩ : TSpan), (⟨476, 529, 2⟩ : TSpan), (⟨530, 532, 1⟩ : TSpan)] : List TSpan)) _ hx223) ?_
              cases hm
              exact RetY.le (leD.refl _)
            · replace hm := if_f h221 hm
              cases hm
              exact RetY.le (leD.refl _)
          · replace hm := if_f h220 hm
            cases hm
            exact RetY.le (leD.refl _)
        · replace hm := if_f h219 hm
          refine VIf.mk (fun (h224 : ((x17.Lo == 476) && (x17.Hi == 500)) = true) => ?_) (fun (h224 : ((x17.Lo == 476) && (x17.Hi == 500)) = false) => ?_)
          · replace hm := if_t h224 hm
            refine VIf.mk (fun (h225 : ((x20.Lo == 400) && (x20.Hi == 500)) = true) => ?_) (fun (h225 : ((x20.Lo == 400) && (x20.Hi == 500)) = false) => ?_)
            · replace hm := if_t h225 hm
              refine ⟨([(⟨470, 475, 0⟩ : TSpan), (⟨476, 529, 2⟩ : TSpan), (⟨530, 532, 1⟩ : TSpan)] : List TSpan).flatMap TSpan.c, ([(⟨470, 475, 0⟩ : TSpan), (⟨476, 529, 2⟩ : TSpan), (⟨530, 532, 1⟩ : TSpan)] : List TSpan).length, ⟨rfl, rfl⟩, ?_⟩
              obtain ⟨x226, hx227, hm⟩ := bd_some hm
              refine CallOwn.det (d_R02_SameSpans x23 (([(⟨470, 475, 0⟩ : TSpan), (⟨476, 529, 2⟩ : TSpan), (⟨530, 532, 1⟩ : TSpan)] : List TSpan)) _ hx227) ?_
              cases hm
              exact RetY.le (leD.refl _)
            · replace hm := if_f h225 hm
              cases hm
              exact RetY.le (leD.refl _)
          · replace hm := if_f h224 hm
            cases hm
            exact RetY.le (leD.refl _)
      · replace hm := if_f h216 hm
        refine VIf.mk (fun (h228 : ((x17.Lo == 476) && (x17.Hi == 500)) = true) => ?_) (fun (h228 : ((x17.Lo == 476) && (x17.Hi == 500)) = false) => ?_)
        · replace hm := if_t h228 hm
          refine VIf.mk (fun (h229 : ((x20.Lo == 400) && (x20.Hi == 500)) = true) => ?_) (fun (h229 : ((x20.Lo == 400) && (x20.Hi == 500)) = false) => ?_)
          · replace hm := if_t h229 hm
            refine ⟨([(⟨470, 475, 0⟩ : TSpan), (⟨476, 529, 2⟩ : TSpan), (⟨530, 532, 1⟩ : TSpan)] : List TSpan).flatMap TSpan.c, ([(⟨470, 475, 0⟩ : TSpan), (⟨476, 529, 2⟩ : TSpan), (⟨530, 532, 1⟩ : TSpan)] : List TSpan).length, ⟨rfl, rfl⟩, ?_⟩
            obtain ⟨x230, hx231, hm⟩ := bd_some hm
            refine CallOwn.det (d_R02_SameSpans x23 (([(⟨470, 475, 0⟩ : TSpan), (⟨476, 529, 2⟩ : TSpan), (⟨530, 532, 1⟩ : TSpan)] : List TSpan)) _ hx231) ?_
            cases hm
            exact RetY.le (leD.refl _)
          · replace hm := if_f h229 hm
            cases hm
            exact RetY.le (leD.refl _)
        · replace hm := if_f h228 hm
          cases hm
          exact RetY.le (leD.refl _)
    · replace hm := if_f h211 hm
      refine VIf.mk (fun (h232 : ((x17.Lo == 476) && (x17.Hi == 500)) = true) => ?_) (fun (h232 : ((x17.Lo == 476) && (x17.Hi == 500)) = false) => ?_)
      · replace hm := if_t h232 hm
        refine VIf.mk (fun (h233 : ((x20.Lo == 400) && (x20.Hi == 500)) = true) => ?_) (fun (h233 : ((x20.Lo == 400) && (x20.Hi == 500)) = false) => ?_)
        · replace hm := if_t h233 hm
          refine ⟨([(⟨470, 475, 0⟩ : TSpan), (⟨476, 529, 2⟩ : TSpan), (⟨530, 532, 1⟩ : TSpan)] : List TSpan).flatMap TSpan.c, ([(⟨470, 475, 0⟩ : TSpan), (⟨476, 529, 2⟩ : TSpan), (⟨530, 532, 1⟩ : TSpan)] : List TSpan).length, ⟨rfl, rfl⟩, ?_⟩
          obtain ⟨x234, hx235, hm⟩ := bd_some hm
          refine CallOwn.det (d_R02_SameSpans x23 (([(⟨470, 475, 0⟩ : TSpan), (⟨476, 529, 2⟩ : TSpan), (⟨530, 532, 1⟩ : TSpan)] : List TSpan)) _ hx235) ?_
          cases hm
          exact RetY.le (leD.refl _)
        · replace hm := if_f h233 hm
          cases hm
          exact RetY.le (leD.refl _)
      · replace hm := if_f h232 hm
        cases hm
        exact RetY.le (leD.refl _)

def m_L02_MoonLower_L1 (by_ : (List Int)) (x1 : TSky) : (Int × (List TRoof) × (List TRoof)) → Option (Sum (Int × (List TRoof) × (List TRoof)) (Int × (List TRoof) × (List TRoof))) := fun (i13, v14, v15) =>
  if (decide (i13 < (x1.Roofs.length : Int))) = true then
    Option.bind (idx x1.Roofs i13) fun e25 =>
    if (decide ((by_.length : Int) > 0)) = true then
      gd ((by_.length : Int) ≠ 0) <|
      Option.bind (idx by_ (i13.tmod (by_.length : Int))) fun e28 =>
      Option.bind (m_R02_Mod e28 9) fun x30 =>
      gd ((v15.length + ([(⟨e25.From, e25.To, (if (W (e25.Top - x30)) > 0 then (W (e25.Top - x30)) else 0)⟩ : TRoof)] : List TRoof).length) * 24 ≤ 140737488355328 ∧ v15.length + ([(⟨e25.From, e25.To, (if (W (e25.Top - x30)) > 0 then (W (e25.Top - x30)) else 0)⟩ : TRoof)] : List TRoof).length ≤ 9223372036854775807) <|
      some (.inl ((W (i13 + 1)), v14, (v15 ++ ([(⟨e25.From, e25.To, (if (W (e25.Top - x30)) > 0 then (W (e25.Top - x30)) else 0)⟩ : TRoof)] : List TRoof))))
    else
      gd ((v15.length + ([e25] : List TRoof).length) * 24 ≤ 140737488355328 ∧ v15.length + ([e25] : List TRoof).length ≤ 9223372036854775807) <|
      some (.inl ((W (i13 + 1)), v14, (v15 ++ ([e25] : List TRoof))))
  else
    some (.inr (i13, v14, v15))
def m_L02_MoonLower_L2 (x1 : TSky) (x3 : Int) (v34 : (List TRoof)) (x35 : Int) (x37 : Int) (x40 : Int) : Int → Option (Sum Int (Sum Int Bool)) := fun t66 =>
  if (decide (t66 ≤ (W (x35 + x37)))) = true then
    if (x40 == 0) = true then
      Option.bind (m_moon_Above (⟨x1.Sheets, x1.Roofs, []⟩ : TSky) (W (5 + x3)) 20 t66) fun ⟨x85, x86⟩ =>
      Option.bind (m_moon_Above (⟨x1.Sheets, v34, []⟩ : TSky) (W (5 + x3)) 20 t66) fun ⟨x88, x89⟩ =>
      if (x86 != 0) = true then
        some (.inr (.inr false))
      else
        if (x89 != 0) = true then
          some (.inr (.inr false))
        else
          if (x85 == 1) = true then
            if (x88 != 1) = true then
              some (.inr (.inr false))
            else
              if (x85 == 2) = true then
                if (x88 == 0) = true then
                  some (.inr (.inr false))
                else
                  some (.inl (W (t66 + 7)))
              else
                some (.inl (W (t66 + 7)))
          else
            if (x85 == 2) = true then
              if (x88 == 0) = true then
                some (.inr (.inr false))
              else
                some (.inl (W (t66 + 7)))
            else
              some (.inl (W (t66 + 7)))
    else
      some (.inr (.inl t66))
  else
    some (.inr (.inl t66))
def m_L02_MoonLower (r_ : TRaw) (n : (Int × Int × Int)) (by_ : (List Int)) : Option Bool :=
  Option.bind (m_R02_Made r_) fun x1 =>
  Option.bind (m_R02_Mod n.1 2) fun x3 =>
  Option.bind (loopF (m_L02_MoonLower_L1 by_ x1) (0, [], [])) fun (i32, v33, v34) =>
  Option.bind (m_R02_Mod n.2.1 1300) fun x35 =>
  Option.bind (m_R02_Mod n.2.2 140) fun x37 =>
  Option.bind (m_moon_Rises (⟨x1.Sheets, x1.Roofs, []⟩ : TSky) (W (5 + x3)) 20 x35 (W (x35 + x37))) fun ⟨x39, x40⟩ =>
  Option.bind (m_moon_Rises (⟨x1.Sheets, v34, []⟩ : TSky) (W (5 + x3)) 20 x35 (W (x35 + x37))) fun ⟨x42, x43⟩ =>
  if (x40 != x43) = true then
    some false
  else
    if (x40 != 0) = true then
      if (x40 != 25) = true then
        some false
      else
        if (decide (x42.Lo > x39.Lo)) = true then
          some false
        else
          if (decide (x42.Hi > x39.Hi)) = true then
            some false
          else
            Option.bind (loopF (m_L02_MoonLower_L2 x1 x3 v34 x35 x37 x40) x35) fun e =>
            match e with
            | .inl t99 =>
              Option.bind (m_L02_sane ) fun x100 =>
              some x100
            | .inr rr102 =>
              some rr102
    else
      if (decide (x42.Lo > x39.Lo)) = true then
        some false
      else
        if (decide (x42.Hi > x39.Hi)) = true then
          some false
        else
          Option.bind (loopF (m_L02_MoonLower_L2 x1 x3 v34 x35 x37 x40) x35) fun e =>
          match e with
          | .inl t178 =>
            Option.bind (m_L02_sane ) fun x179 =>
            some x179
          | .inr rr181 =>
            some rr181
set_option maxRecDepth 100000 in
set_option maxHeartbeats 2000000 in
theorem d_L02_MoonLower (r_ : TRaw) (n : (Int × Int × Int)) (by_ : (List Int)) (r : Bool) (hm : m_L02_MoonLower r_ n by_ = some r) : Does Try.prog 4 [.agg (TRaw.c r_), .agg [DI n.1, DI n.2.1, DI n.2.2], .lst 1 by_.length (by_.flatMap cI)] (fun x => x = DB r) := by
  refine does_y (X := ⟨Try.prog, tt, Try.f4.ntmps, pl4, [], [], []⟩) pok _ Try.func4 rfl rfl (Nat.le_of_ble_eq_true rfl) ?_
  obtain ⟨x1, hx2, hm⟩ := bd_some hm
  refine CallY.det (d_R02_Made r_ _ hx2) ?_
  refine ⟨by decide, ?_⟩
  obtain ⟨x3, hx4, hm⟩ := bd_some hm
  refine CallY.det (d_R02_Mod n.1 2 _ hx4) ?_
  obtain ⟨ev206, he, hk207⟩ := bd_some hm
  refine LoopY.of (fun (lpx : Nat × (Int × (List TRoof) × (List TRoof))) => match lpx with | (fu208, i13, v14, v15) => (⟨[(0, .agg [.lst 1 r_.Rows.length (r_.Rows.flatMap (fun (x : (List (Int × Int × Int × Int))) => [.lst 4 x.length (x.flatMap (fun (x : (Int × Int × Int × Int)) => [DI x.1, DI x.2.1, DI x.2.2.1, DI x.2.2.2]))])), .lst 4 r_.Sheets.length (r_.Sheets.flatMap (fun (x : (Int × Int × Int × Int)) => [DI x.1, DI x.2.1, DI x.2.2.1, DI x.2.2.2])), .lst 3 r_.Roofs.length (r_.Roofs.flatMap (fun (x : (Int × Int × Int)) => [DI x.1, DI x.2.1, DI x.2.2])), .lst 4 r_.Sightings.length (r_.Sightings.flatMap (fun (x : (Int × Int × Int × Int)) => [DI x.1, DI x.2.1, DI x.2.2.1, DI x.2.2.2])), DI r_.Off]), (1, .agg [DI n.1, DI n.2.1, DI n.2.2]), (2, .lst 1 by_.length (by_.flatMap cI)), (3, .own 0 0), (4, .own 1 0), (6, DB false), (7, .own 2 0), (8, DI (W (5 + x3))), (9, .own 3 0), (10, DI i13)], [(0, .blk [.lst 1 r_.Rows.length (r_.Rows.flatMap (fun (x : (List (Int × Int × Int × Int))) => [.lst 4 x.length (x.flatMap (fun (x : (Int × Int × Int × Int)) => [DI x.1, DI x.2.1, DI x.2.2.1, DI x.2.2.2]))])), .lst 4 r_.Sheets.length (r_.Sheets.flatMap (fun (x : (Int × Int × Int × Int)) => [DI x.1, DI x.2.1, DI x.2.2.1, DI x.2.2.2])), .lst 3 r_.Roofs.length (r_.Roofs.flatMap (fun (x : (Int × Int × Int)) => [DI x.1, DI x.2.1, DI x.2.2])), .lst 4 r_.Sightings.length (r_.Sightings.flatMap (fun (x : (Int × Int × Int × Int)) => [DI x.1, DI x.2.1, DI x.2.2.1, DI x.2.2.2])), DI r_.Off] 26), (1, .blk [DI n.1, DI n.2.1, DI n.2.2] 27), (2, .blk [.lst 9 x1.Sheets.length (x1.Sheets.flatMap TSheet.c), .lst 3 x1.Roofs.length (x1.Roofs.flatMap TRoof.c), .v (.slice none 0 0)] 32), (3, .blk [.lst 9 x1.Sheets.length (x1.Sheets.flatMap TSheet.c), .row 5 3, .v (.slice none 0 0)] 32), (4, .row 3 v14.length (v14.flatMap TRoof.c) 58), (5, .row 3 v15.length (v15.flatMap TRoof.c) 58)], 6⟩ : Sy)) (fun lpx => loopO (m_L02_MoonLower_L1 by_ x1) lpx.1 lpx.2 = some ev206) (fun lpx => lpx.1) (FUEL, (0, [], [])) (SubY.of 4 rfl ⟨⟨_, rfl, leD.refl _⟩, ⟨_, rfl, leD.refl _⟩, ⟨_, rfl, leD.refl _⟩, ⟨_, rfl, leD.refl _⟩, ⟨_, rfl, leD.refl _⟩, ⟨_, rfl, leD.refl _⟩, ⟨_, rfl, leD.refl _⟩, ⟨_, rfl, leD.refl _⟩, ⟨_, rfl, leD.refl _⟩, ⟨_, rfl, leD.refl _⟩, trivial⟩ ⟨⟨_, rfl, leDL.refl _⟩, ⟨_, rfl, leDL.refl _⟩, ⟨_, rfl, leDL.refl _⟩, ⟨_, rfl, leDL.refl _⟩, ⟨rfl, rfl⟩, ⟨rfl, rfl⟩, trivial⟩) he ?_
  rintro ⟨fu208, i13, v14, v15⟩ hi209
  obtain ⟨fu208, b, rfl, hm, hi209⟩ := loop_step hi209
  refine VIf.mk (fun (h210 : (decide (i13 < (x1.Roofs.length : Int))) = true) => ?_) (fun (h210 : (decide (i13 < (x1.Roofs.length : Int))) = false) => ?_)
  · replace hm := if_t h210 hm
    obtain ⟨e211, hx212, hm⟩ := bd_some hm
    refine ⟨_, el_idx (fun _ => rfl) hx212, ?_⟩
    refine VIf.mk (fun (h213 : (decide ((by_.length : Int) > 0)) = true) => ?_) (fun (h213 : (decide ((by_.length : Int) > 0)) = false) => ?_)
    · replace hm := if_t h213 hm
      refine ⟨rfl, ?_⟩
      obtain ⟨hg, hm⟩ := gd_some hm
      refine ⟨hg, ?_⟩
      obtain ⟨e214, hx215, hm⟩ := bd_some hm
      refine ⟨_, el_idx (fun _ => rfl) hx215, ?_⟩
      obtain ⟨x216, hx217, hm⟩ := bd_some hm
      refine CallY.det (d_R02_Mod e214 9 _ hx217) ?_
      refine ⟨([(⟨e211.From, e211.To, (if (W (e211.Top - x216)) > 0 then (W (e211.Top - x216)) else 0)⟩ : TRoof)] : List TRoof).flatMap TRoof.c, ([(⟨e211.From, e211.To, (if (W (e211.Top - x216)) > 0 then (W (e211.Top - x216)) else 0)⟩ : TRoof)] : List TRoof).length, ⟨rfl, rfl⟩, ?_⟩
      obtain ⟨hg, hm⟩ := gd_some hm
      refine ⟨hg, _, _, flat_app (c := TRoof.c) (l := (v15 : List TRoof)) (r := (([(⟨e211.From, e211.To, (if (W (e211.Top - x216)) > 0 then (W (e211.Top - x216)) else 0)⟩ : TRoof)] : List TRoof) : List TRoof)), ?_⟩
      cases hm
      exact ⟨(fu208, ((W (i13 + 1)), v14, (v15 ++ ([(⟨e211.From, e211.To, (if (W (e211.Top - x216)) > 0 then (W (e211.Top - x216)) else 0)⟩ : TRoof)] : List TRoof)))), SubY.of 6 rfl ⟨⟨_, rfl, leD.refl _⟩, ⟨_, rfl, leD.refl _⟩, ⟨_, rfl, leD.refl _⟩, ⟨_, rfl, leD.refl _⟩, ⟨_, rfl, leD.refl _⟩, ⟨_, rfl, leD.refl _⟩, ⟨_, rfl, leD.refl _⟩, ⟨_, rfl, leD.refl _⟩, ⟨_, rfl, leD.refl _⟩, ⟨_, rfl, leD.refl _⟩, trivial⟩ ⟨⟨_, rfl, leDL.refl _⟩, ⟨_, rfl, leDL.refl _⟩, ⟨_, rfl, leDL.refl _⟩, ⟨_, rfl, leDL.refl _⟩, ⟨_, _, rfl, (by first | rfl | simp), rfl⟩, ⟨_, _, rfl, (by first | rfl | simp), rfl⟩, trivial⟩, hi209, Nat.lt_succ_self _⟩
    · replace hm := if_f h213 hm
      refine ⟨([e211] : List TRoof).flatMap TRoof.c, ([e211] : List TRoof).length, ⟨rfl, rfl⟩, ?_⟩
      obtain ⟨hg, hm⟩ := gd_some hm
      refine ⟨hg, _, _, flat_app (c := TRoof.c) (l := (v15 : List TRoof)) (r := (([e211] : List TRoof) : List TRoof)), ?_⟩
      cases hm
      exact ⟨(fu208, ((W (i13 + 1)), v14, (v15 ++ ([e211] : List TRoof)))), SubY.of 6 rfl ⟨⟨_, rfl, leD.refl _⟩, ⟨_, rfl, leD.refl _⟩, ⟨_, rfl, leD.refl _⟩, ⟨_, rfl, leD.refl _⟩, ⟨_, rfl, leD.refl _⟩, ⟨_, rfl, leD.refl _⟩, ⟨_, rfl, leD.refl _⟩, ⟨_, rfl, leD.refl _⟩, ⟨_, rfl, leD.refl _⟩, ⟨_, rfl, leD.refl _⟩, trivial⟩ ⟨⟨_, rfl, leDL.refl _⟩, ⟨_, rfl, leDL.refl _⟩, ⟨_, rfl, leDL.refl _⟩, ⟨_, rfl, leDL.refl _⟩, ⟨_, _, rfl, (by first | rfl | simp), rfl⟩, ⟨_, _, rfl, (by first | rfl | simp), rfl⟩, trivial⟩, hi209, Nat.lt_succ_self _⟩
  · replace hm := if_f h210 hm
    cases hm
    cases hi209
    have hm := hk207
    refine ⟨by decide, ?_⟩
    obtain ⟨x218, hx219, hm⟩ := bd_some hm
    refine CallY.det (d_R02_Mod n.2.1 1300 _ hx219) ?_
    refine ⟨by decide, ?_⟩
    obtain ⟨x220, hx221, hm⟩ := bd_some hm
    refine CallY.det (d_R02_Mod n.2.2 140 _ hx221) ?_
    obtain ⟨⟨x222, x223⟩, hx224, hm⟩ := bd_some hm
    refine CallY.det ((d_moon_Rises ((⟨x1.Sheets, x1.Roofs, []⟩ : TSky)) (W (5 + x3)) 20 x218 (W (x218 + x220)) _ hx224).le ⟨⟨_, rfl, ⟨leD.refl _, leD.refl _, leD.nil, trivial⟩⟩, leD.refl _, leD.refl _, leD.refl _, leD.refl _, trivial⟩) ?_
    obtain ⟨⟨x225, x226⟩, hx227, hm⟩ := bd_some hm
    refine CallOwn.det ((d_moon_Rises ((⟨x1.Sheets, v15, []⟩ : TSky)) (W (5 + x3)) 20 x218 (W (x218 + x220)) _ hx227).le ⟨⟨_, rfl, ⟨leD.refl _, leD.refl _, leD.nil, trivial⟩⟩, leD.refl _, leD.refl _, leD.refl _, leD.refl _, trivial⟩) ?_
    refine VIf.mk (fun (h228 : (x223 != x226) = true) => ?_) (fun (h228 : (x223 != x226) = false) => ?_)
    · replace hm := if_t h228 hm
      cases hm
      exact RetY.le (leD.refl _)
    · replace hm := if_f h228 hm
      refine VIf.mk (fun (h229 : (x223 != 0) = true) => ?_) (fun (h229 : (x223 != 0) = false) => ?_)
      · replace hm := if_t h229 hm
        refine VIf.mk (fun (h230 : (x223 != 25) = true) => ?_) (fun (h230 : (x223 != 25) = false) => ?_)
        · replace hm := if_t h230 hm
          cases hm
          exact RetY.le (leD.refl _)
        · replace hm := if_f h230 hm
          refine VIf.mk (fun (h231 : (decide (x225.Lo > x222.Lo)) = true) => ?_) (fun (h231 : (decide (x225.Lo > x222.Lo)) = false) => ?_)
          · replace hm := if_t h231 hm
            cases hm
            exact RetY.le (leD.refl _)
          · replace hm := if_f h231 hm
            refine VIf.mk (fun (h232 : (decide (x225.Hi > x222.Hi)) = true) => ?_) (fun (h232 : (decide (x225.Hi > x222.Hi)) = false) => ?_)
            · replace hm := if_t h232 hm
              cases hm
              exact RetY.le (leD.refl _)
            · replace hm := if_f h232 hm
              obtain ⟨ev286, he, hk287⟩ := bd_some hm
              refine LoopY.of (fun (lpx : Nat × Int) => match lpx with | (fu288, t249) => (⟨[(0, .agg [.lst 1 r_.Rows.length (r_.Rows.flatMap (fun (x : (List (Int × Int × Int × Int))) => [.lst 4 x.length (x.flatMap (fun (x : (Int × Int × Int × Int)) => [DI x.1, DI x.2.1, DI x.2.2.1, DI x.2.2.2]))])), .lst 4 r_.Sheets.length (r_.Sheets.flatMap (fun (x : (Int × Int × Int × Int)) => [DI x.1, DI x.2.1, DI x.2.2.1, DI x.2.2.2])), .lst 3 r_.Roofs.length (r_.Roofs.flatMap (fun (x : (Int × Int × Int)) => [DI x.1, DI x.2.1, DI x.2.2])), .lst 4 r_.Sightings.length (r_.Sightings.flatMap (fun (x : (Int × Int × Int × Int)) => [DI x.1, DI x.2.1, DI x.2.2.1, DI x.2.2.2])), DI r_.Off]), (1, .agg [DI n.1, DI n.2.1, DI n.2.2]), (2, .lst 1 by_.length (by_.flatMap cI)), (3, .own 0 0), (4, .own 1 0), (6, DB false), (7, .own 2 0), (8, DI (W (5 + x3))), (9, .own 3 0), (10, DI i13), (12, DI x218), (13, DI (W (x218 + x220))), (14, .own 6 0), (15, DI x223), (16, .own 7 0), (17, DI x226), (18, DI t249), (37, DB (decide (i13 < (x1.Roofs.length : Int)))), (115, DB (decide (x225.Hi > x222.Hi)))], [(0, .blk [.lst 1 r_.Rows.length (r_.Rows.flatMap (fun (x : (List (Int × Int × Int × Int))) => [.lst 4 x.length (x.flatMap (fun (x : (Int × Int × Int × Int)) => [DI x.1, DI x.2.1, DI x.2.2.1, DI x.2.2.2]))])), .lst 4 r_.Sheets.length (r_.Sheets.flatMap (fun (x : (Int × Int × Int × Int)) => [DI x.1, DI x.2.1, DI x.2.2.1, DI x.2.2.2])), .lst 3 r_.Roofs.length (r_.Roofs.flatMap (fun (x : (Int × Int × Int)) => [DI x.1, DI x.2.1, DI x.2.2])), .lst 4 r_.Sightings.length (r_.Sightings.flatMap (fun (x : (Int × Int × Int × Int)) => [DI x.1, DI x.2.1, DI x.2.2.1, DI x.2.2.2])), DI r_.Off] 26), (1, .blk [DI n.1, DI n.2.1, DI n.2.2] 27), (2, .blk [.lst 9 x1.Sheets.length (x1.Sheets.flatMap TSheet.c), .lst 3 x1.Roofs.length (x1.Roofs.flatMap TRoof.c), .v (.slice none 0 0)] 32), (3, .blk [.lst 9 x1.Sheets.length (x1.Sheets.flatMap TSheet.c), .row 5 3, .v (.slice none 0 0)] 32), (4, .row 3 v14.length (v14.flatMap TRoof.c) 58), (5, .row 3 v15.length (v15.flatMap TRoof.c) 58), (6, .blk [DI x222.Lo, DI x222.Hi] 39), (7, .blk [DI x225.Lo, DI x225.Hi] 39)], 8⟩ : Sy)) (fun lpx => loopO (m_L02_MoonLower_L2 x1 x3 v15 x218 x220 x223) lpx.1 lpx.2 = some ev286) (fun lpx => lpx.1) (FUEL, x218) (SubY.of 8 rfl ⟨⟨_, rfl, leD.refl _⟩, ⟨_, rfl, leD.refl _⟩, ⟨_, rfl, leD.refl _⟩, ⟨_, rfl, leD.refl _⟩, ⟨_, rfl, leD.refl _⟩, ⟨_, rfl, leD.refl _⟩, ⟨_, rfl, leD.refl _⟩, ⟨_, rfl, leD.refl _⟩, ⟨_, rfl, leD.refl _⟩, ⟨_, rfl, leD.refl _⟩, ⟨_, rfl, leD.refl _⟩, ⟨_, rfl, leD.refl _⟩, ⟨_, rfl, leD.refl _⟩, ⟨_, rfl, leD.refl _⟩, ⟨_, rfl, leD.refl _⟩, ⟨_, rfl, leD.refl _⟩, ⟨_, rfl, leD.refl _⟩, ⟨_, rfl, leD.refl _⟩, ⟨_, rfl, leD.refl _⟩, trivial⟩ ⟨⟨_, rfl, leDL.refl _⟩, ⟨_, rfl, leDL.refl _⟩, ⟨_, rfl, leDL.refl _⟩, ⟨_, rfl, leDL.refl _⟩, ⟨_, _, rfl, (by first | rfl | simp), rfl⟩, ⟨_, _, rfl, (by first | rfl | simp), rfl⟩, ⟨_, rfl, leDL.refl _⟩, ⟨_, rfl, leDL.refl _⟩, trivial⟩) he ?_
              rintro ⟨fu288, t249⟩ hi289
              obtain ⟨fu288, b, rfl, hm, hi289⟩ := loop_step hi289
              refine VIf.mk (fun (h290 : (decide (t249 ≤ (W (x218 + x220)))) = true) => ?_) (fun (h290 : (decide (t249 ≤ (W (x218 + x220)))) = false) => ?_)
              · replace hm := if_t h290 hm
                refine VIf.mk (fun (h291 : (x223 == 0) = true) => ?_) (fun (h291 : (x223 == 0) = false) => ?_)
                · replace hm := if_t h291 hm
                  obtain ⟨⟨x292, x293⟩, hx294, hm⟩ := bd_some hm
                  refine CallY.det ((d_moon_Above ((⟨x1.Sheets, x1.Roofs, []⟩ : TSky)) (W (5 + x3)) 20 t249 _ hx294).le ⟨⟨_, rfl, ⟨leD.refl _, leD.refl _, leD.nil, trivial⟩⟩, leD.refl _, leD.refl _, leD.refl _, trivial⟩) ?_
                  obtain ⟨⟨x295, x296⟩, hx297, hm⟩ := bd_some hm
                  refine CallOwn.det ((d_moon_Above ((⟨x1.Sheets, v15, []⟩ : TSky)) (W (5 + x3)) 20 t249 _ hx297).le ⟨⟨_, rfl, ⟨leD.refl _, leD.refl _, leD.nil, trivial⟩⟩, leD.refl _, leD.refl _, leD.refl _, trivial⟩) ?_
                  refine VIf.mk (fun (h298 : (x293 != 0) = true) => ?_) (fun (h298 : (x293 != 0) = false) => ?_)
                  · replace hm := if_t h298 hm
                    cases hm
                    cases hi289
                    have hm := hk287
                    cases hm
                    exact RetY.le (leD.refl _)
                  · replace hm := if_f h298 hm
                    refine VIf.mk (fun (h299 : (x296 != 0) = true) => ?_) (fun (h299 : (x296 != 0) = false) => ?_)
                    · replace hm := if_t h299 hm
                      cases hm
                      cases hi289
                      have hm := hk287
                      cases hm
                      exact RetY.le (leD.refl _)
                    · replace hm := if_f h299 hm
                      refine VIf.mk (fun (h300 : (x292 == 1) = true) => ?_) (fun (h300 : (x292 == 1) = false) => ?_)
                      · replace hm := if_t h300 hm
                        refine VIf.mk (fun (h301 : (x295 != 1) = true) => ?_) (fun (h301 : (x295 != 1) = false) => ?_)
                        · replace hm := if_t h301 hm
                          cases hm
                          cases hi289
                          have hm := hk287
                          cases hm
                          exact RetY.le (leD.refl _)
                        · replace hm := if_f h301 hm
                          refine VIf.mk (fun (h302 : (x292 == 2) = true) => ?_) (fun (h302 : (x292 == 2) = false) => ?_)
                          · replace hm := if_t h302 hm
                            refine VIf.mk (fun (h303 : (x295 == 0) = true) => ?_) (fun (h303 : (x295 == 0) = false) => ?_)
                            · replace hm := if_t h303 hm
                              cases hm
                              cases hi289
                              have hm := hk287
                              cases hm
                              exact RetY.le (leD.refl _)
                            · replace hm := if_f h303 hm
                              cases hm
                              exact ⟨(fu288, (W (t249 + 7))), SubY.of 8 rfl ⟨⟨_, rfl, leD.refl _⟩, ⟨_, rfl, leD.refl _⟩, ⟨_, rfl, leD.refl _⟩, ⟨_, rfl, leD.refl _⟩, ⟨_, rfl, leD.refl _⟩, ⟨_, rfl, leD.refl _⟩, ⟨_, rfl, leD.refl _⟩, ⟨_, rfl, leD.refl _⟩, ⟨_, rfl, leD.refl _⟩, ⟨_, rfl, leD.refl _⟩, ⟨_, rfl, leD.refl _⟩, ⟨_, rfl, leD.refl _⟩, ⟨_, rfl, leD.refl _⟩, ⟨_, rfl, leD.refl _⟩, ⟨_, rfl, leD.refl _⟩, ⟨_, rfl, leD.refl _⟩, ⟨_, rfl, leD.refl _⟩, ⟨_, rfl, leD.refl _⟩, ⟨_, rfl, leD.refl _⟩, trivial⟩ ⟨⟨_, rfl, leDL.refl _⟩, ⟨_, rfl, leDL.refl _⟩, ⟨_, rfl, leDL.refl _⟩, ⟨_, rfl, leDL.refl _⟩, ⟨_, _, rfl, (by first | rfl | simp), rfl⟩, ⟨_, _, rfl, (by first | rfl | simp), rfl⟩, ⟨_, rfl, leDL.refl _⟩, ⟨_, rfl, leDL.refl _⟩, trivial⟩, hi289, Nat.lt_succ_self _⟩
                          · replace hm := if_f h302 hm
                            cases hm
                            exact ⟨(fu288, (W (t249 + 7))), SubY.of 8 rfl ⟨⟨_, rfl, leD.refl _⟩, ⟨_, rfl, leD.refl _⟩, ⟨_, rfl, leD.refl _⟩, ⟨_, rfl, leD.refl _⟩, ⟨_, rfl, leD.refl _⟩, ⟨_, rfl, leD.refl _⟩, ⟨_, rfl, leD.refl _⟩, ⟨_, rfl, leD.refl _⟩, ⟨_, rfl, leD.refl _⟩, ⟨_, rfl, leD.refl _⟩, ⟨_, rfl, leD.refl _⟩, ⟨_, rfl, leD.refl _⟩, ⟨_, rfl, leD.refl _⟩, ⟨_, rfl, leD.refl _⟩, ⟨_, rfl, leD.refl _⟩, ⟨_, rfl, leD.refl _⟩, ⟨_, rfl, leD.refl _⟩, ⟨_, rfl, leD.refl _⟩, ⟨_, rfl, leD.refl _⟩, trivial⟩ ⟨⟨_, rfl, leDL.refl _⟩, ⟨_, rfl, leDL.refl _⟩, ⟨_, rfl, leDL.refl _⟩, ⟨_, rfl, leDL.refl _⟩, ⟨_, _, rfl, (by first | rfl | simp), rfl⟩, ⟨_, _, rfl, (by first | rfl | simp), rfl⟩, ⟨_, rfl, leDL.refl _⟩, ⟨_, rfl, leDL.refl _⟩, trivial⟩, hi289, Nat.lt_succ_self _⟩
                      · replace hm := if_f h300 hm
                        refine VIf.mk (fun (h304 : (x292 == 2) = true) => ?_) (fun (h304 : (x292 == 2) = false) => ?_)
                        · replace hm := if_t h304 hm
                          refine VIf.mk (fun (h305 : (x295 == 0) = true) => ?_) (fun (h305 : (x295 == 0) = false) => ?_)
                          · replace hm := if_t h305 hm
                            cases hm
                            cases hi289
                            have hm := hk287
                            cases hm
                            exact RetY.le (leD.refl _)
                          · replace hm := if_f h305 hm
                            cases hm
                            exact ⟨(fu288, (W (t249 + 7))), SubY.of 8 rfl ⟨⟨_, rfl, leD.refl _⟩, ⟨_, rfl, leD.refl _⟩, ⟨_, rfl, leD.refl _⟩, ⟨_, rfl, leD.refl _⟩, ⟨_, rfl, leD.refl _⟩, ⟨_, rfl, leD.refl _⟩, ⟨_, rfl, leD.refl _⟩, ⟨_, rfl, leD.refl _⟩, ⟨_, rfl, leD.refl _⟩, ⟨_, rfl, leD.refl _⟩, ⟨_, rfl, leD.refl _⟩, ⟨_, rfl, leD.refl _⟩, ⟨_, rfl, leD.refl _⟩, ⟨_, rfl, leD.refl _⟩, ⟨_, rfl, leD.refl _⟩, ⟨_, rfl, leD.refl _⟩, ⟨_, rfl, leD.refl _⟩, ⟨_, rfl, leD.refl _⟩, ⟨_, rfl, leD.refl _⟩, trivial⟩ ⟨⟨_, rfl, leDL.refl _⟩, ⟨_, rfl, leDL.refl _⟩, ⟨_, rfl, leDL.refl _⟩, ⟨_, rfl, leDL.refl _⟩, ⟨_, _, rfl, (by first | rfl | simp), rfl⟩, ⟨_, _, rfl, (by first | rfl | simp), rfl⟩, ⟨_, rfl, leDL.refl _⟩, ⟨_, rfl, leDL.refl _⟩, trivial⟩, hi289, Nat.lt_succ_self _⟩
                        · replace hm := if_f h304 hm
                          cases hm
                          exact ⟨(fu288, (W (t249 + 7))), SubY.of 8 rfl ⟨⟨_, rfl, leD.refl _⟩, ⟨_, rfl, leD.refl _⟩, ⟨_, rfl, leD.refl _⟩, ⟨_, rfl, leD.refl _⟩, ⟨_, rfl, leD.refl _⟩, ⟨_, rfl, leD.refl _⟩, ⟨_, rfl, leD.refl _⟩, ⟨_, rfl, leD.refl _⟩, ⟨_, rfl, leD.refl _⟩, ⟨_, rfl, leD.refl _⟩, ⟨_, rfl, leD.refl _⟩, ⟨_, rfl, leD.refl _⟩, ⟨_, rfl, leD.refl _⟩, ⟨_, rfl, leD.refl _⟩, ⟨_, rfl, leD.refl _⟩, ⟨_, rfl, leD.refl _⟩, ⟨_, rfl, leD.refl _⟩, ⟨_, rfl, leD.refl _⟩, ⟨_, rfl, leD.refl _⟩, trivial⟩ ⟨⟨_, rfl, leDL.refl _⟩, ⟨_, rfl, leDL.refl _⟩, ⟨_, rfl, leDL.refl _⟩, ⟨_, rfl, leDL.refl _⟩, ⟨_, _, rfl, (by first | rfl | simp), rfl⟩, ⟨_, _, rfl, (by first | rfl | simp), rfl⟩, ⟨_, rfl, leDL.refl _⟩, ⟨_, rfl, leDL.refl _⟩, trivial⟩, hi289, Nat.lt_succ_self _⟩
                · replace hm := if_f h291 hm
                  cases hm
                  cases hi289
                  have hm := hk287
                  obtain ⟨x306, hx307, hm⟩ := bd_some hm
                  refine CallY.det (d_L02_sane  _ hx307) ?_
                  cases hm
                  exact RetY.le (leD.refl _)
              · replace hm := if_f h290 hm
                cases hm
                cases hi289
                have hm := hk287
                obtain ⟨x308, hx309, hm⟩ := bd_some hm
                refine CallY.det (d_L02_sane  _ hx309) ?_
                cases hm
                exact RetY.le (leD.refl _)
      · replace hm := if_f h229 hm
        refine VIf.mk (fun (h310 : (decide (x225.Lo > x222.Lo)) = true) => ?_) (fun (h310 : (decide (x225.Lo > x222.Lo)) = false) => ?_)
        · replace hm := if_t h310 hm
          cases hm
          exact RetY.le (leD.refl _)
        · replace hm := if_f h310 hm
          refine VIf.mk (fun (h311 : (decide (x225.Hi > x222.Hi)) = true) => ?_) (fun (h311 : (decide (x225.Hi > x222.Hi)) = false) => ?_)
          · replace hm := if_t h311 hm
            cases hm
            exact RetY.le (leD.refl _)
          · replace hm := if_f h311 hm
            obtain ⟨ev365, he, hk366⟩ := bd_some hm
            refine LoopY.of (fun (lpx : Nat × Int) => match lpx with | (fu367, t328) => (⟨[(0, .agg [.lst 1 r_.Rows.length (r_.Rows.flatMap (fun (x : (List (Int × Int × Int × Int))) => [.lst 4 x.length (x.flatMap (fun (x : (Int × Int × Int × Int)) => [DI x.1, DI x.2.1, DI x.2.2.1, DI x.2.2.2]))])), .lst 4 r_.Sheets.length (r_.Sheets.flatMap (fun (x : (Int × Int × Int × Int)) => [DI x.1, DI x.2.1, DI x.2.2.1, DI x.2.2.2])), .lst 3 r_.Roofs.length (r_.Roofs.flatMap (fun (x : (Int × Int × Int)) => [DI x.1, DI x.2.1, DI x.2.2])), .lst 4 r_.Sightings.length (r_.Sightings.flatMap (fun (x : (Int × Int × Int × Int)) => [DI x.1, DI x.2.1, DI x.2.2.1, DI x.2.2.2])), DI r_.Off]), (1, .agg [DI n.1, DI n.2.1, DI n.2.2]), (2, .lst 1 by_.length (by_.flatMap cI)), (3, .own 0 0), (4, .own 1 0), (6, DB false), (7, .own 2 0), (8, DI (W (5 + x3))), (9, .own 3 0), (10, DI i13), (12, DI x218), (13, DI (W (x218 + x220))), (14, .own 6 0), (15, DI x223), (16, .own 7 0), (17, DI x226), (18, DI t328), (37, DB (decide (i13 < (x1.Roofs.length : Int)))), (115, DB (decide (x225.Hi > x222.Hi)))], [(0, .blk [.lst 1 r_.Rows.length (r_.Rows.flatMap (fun (x : (List (Int × Int × Int × Int))) => [.lst 4 x.length (x.flatMap (fun (x : (Int × Int × Int × Int)) => [DI x.1, DI x.2.1, DI x.2.2.1, DI x.2.2.2]))])), .lst 4 r_.Sheets.length (r_.Sheets.flatMap (fun (x : (Int × Int × Int × Int)) => [DI x.1, DI x.2.1, DI x.2.2.1, DI x.2.2.2])), .lst 3 r_.Roofs.length (r_.Roofs.flatMap (fun (x : (Int × Int × Int)) => [DI x.1, DI x.2.1, DI x.2.2])), .lst 4 r_.Sightings.length (r_.Sightings.flatMap (fun (x : (Int × Int × Int × Int)) => [DI x.1, DI x.2.1, DI x.2.2.1, DI x.2.2.2])), DI r_.Off] 26), (1, .blk [DI n.1, DI n.2.1, DI n.2.2] 27), (2, .blk [.lst 9 x1.Sheets.length (x1.Sheets.flatMap TSheet.c), .lst 3 x1.Roofs.length (x1.Roofs.flatMap TRoof.c), .v (.slice none 0 0)] 32), (3, .blk [.lst 9 x1.Sheets.length (x1.Sheets.flatMap TSheet.c), .row 5 3, .v (.slice none 0 0)] 32), (4, .row 3 v14.length (v14.flatMap TRoof.c) 58), (5, .row 3 v15.length (v15.flatMap TRoof.c) 58), (6, .blk [DI x222.Lo, DI x222.Hi] 39), (7, .blk [DI x225.Lo, DI x225.Hi] 39)], 8⟩ : Sy)) (fun lpx => loopO (m_L02_MoonLower_L2 x1 x3 v15 x218 x220 x223) lpx.1 lpx.2 = some ev365) (fun lpx => lpx.1) (FUEL, x218) (SubY.of 8 rfl ⟨⟨_, rfl, leD.refl _⟩, ⟨_, rfl, leD.refl _⟩, ⟨_, rfl, leD.refl _⟩, ⟨_, rfl, leD.refl _⟩, ⟨_, rfl, leD.refl _⟩, ⟨_, rfl, leD.refl _⟩, ⟨_, rfl, leD.refl _⟩, ⟨_, rfl, leD.refl _⟩, ⟨_, rfl, leD.refl _⟩, ⟨_, rfl, leD.refl _⟩, ⟨_, rfl, leD.refl _⟩, ⟨_, rfl, leD.refl _⟩, ⟨_, rfl, leD.refl _⟩, ⟨_, rfl, leD.refl _⟩, ⟨_, rfl, leD.refl _⟩, ⟨_, rfl, leD.refl _⟩, ⟨_, rfl, leD.refl _⟩, ⟨_, rfl, leD.refl _⟩, ⟨_, rfl, leD.refl _⟩, trivial⟩ ⟨⟨_, rfl, leDL.refl _⟩, ⟨_, rfl, leDL.refl _⟩, ⟨_, rfl, leDL.refl _⟩, ⟨_, rfl, leDL.refl _⟩, ⟨_, _, rfl, (by first | rfl | simp), rfl⟩, ⟨_, _, rfl, (by first | rfl | simp), rfl⟩, ⟨_, rfl, leDL.refl _⟩, ⟨_, rfl, leDL.refl _⟩, trivial⟩) he ?_
            rintro ⟨fu367, t328⟩ hi368
            obtain ⟨fu367, b, rfl, hm, hi368⟩ := loop_step hi368
            refine VIf.mk (fun (h369 : (decide (t328 ≤ (W (x218 + x220)))) = true) => ?_) (fun (h369 : (decide (t328 ≤ (W (x218 + x220)))) = false) => ?_)
            · replace hm := if_t h369 hm
              refine VIf.mk (fun (h370 : (x223 == 0) = true) => ?_) (fun (h370 : (x223 == 0) = false) => ?_)
              · replace hm := if_t h370 hm
                obtain ⟨⟨x371, x372⟩, hx373, hm⟩ := bd_some hm
                refine CallY.det ((d_moon_Above ((⟨x1.Sheets, x1.Roofs, []⟩ : TSky)) (W (5 + x3)) 20 t328 _ hx373).le ⟨⟨_, rfl, ⟨leD.refl _, leD.refl _, leD.nil, trivial⟩⟩, leD.refl _, leD.refl _, leD.refl _, trivial⟩) ?_
                obtain ⟨⟨x374, x375⟩, hx376, hm⟩ := bd_some hm
                refine CallOwn.det ((d_moon_Above ((⟨x1.Sheets, v15, []⟩ : TSky)) (W (5 + x3)) 20 t328 _ hx376).le ⟨⟨_, rfl, ⟨leD.refl _, leD.refl _, leD.nil, trivial⟩⟩, leD.refl _, leD.refl _, leD.refl _, trivial⟩) ?_
                refine VIf.mk (fun (h377 : (x372 != 0) = true) => ?_) (fun (h377 : (x372 != 0) = false) => ?_)
                · replace hm := if_t h377 hm
                  cases hm
                  cases hi368
                  have hm := hk366
                  cases hm
                  exact RetY.le (leD.refl _)
                · replace hm := if_f h377 hm
                  refine VIf.mk (fun (h378 : (x375 != 0) = true) => ?_) (fun (h378 : (x375 != 0) = false) => ?_)
                  · replace hm := if_t h378 hm
                    cases hm
                    cases hi368
                    have hm := hk366
                    cases hm
                    exact RetY.le (leD.refl _)
                  · replace hm := if_f h378 hm
                    refine VIf.mk (fun (h379 : (x371 == 1) = true) => ?_) (fun (h379 : (x371 == 1) = false) => ?_)
                    · replace hm := if_t h379 hm
                      refine VIf.mk (fun (h380 : (x374 != 1) = true) => ?_) (fun (h380 : (x374 != 1) = false) => ?_)
                      · replace hm := if_t h380 hm
                        cases hm
                        cases hi368
                        have hm := hk366
                        cases hm
                        exact RetY.le (leD.refl _)
                      · replace hm := if_f h380 hm
                        refine VIf.mk (fun (h381 : (x371 == 2) = true) => ?_) (fun (h381 : (x371 == 2) = false) => ?_)
                        · replace hm := if_t h381 hm
                          refine VIf.mk (fun (h382 : (x374 == 0) = true) => ?_) (fun (h382 : (x374 == 0) = false) => ?_)
                          · replace hm := if_t h382 hm
                            cases hm
                            cases hi368
                            have hm := hk366
                            cases hm
                            exact RetY.le (leD.refl _)
                          · replace hm := if_f h382 hm
                            cases hm
                            exact ⟨(fu367, (W (t328 + 7))), SubY.of 8 rfl ⟨⟨_, rfl, leD.refl _⟩, ⟨_, rfl, leD.refl _⟩, ⟨_, rfl, leD.refl _⟩, ⟨_, rfl, leD.refl _⟩, ⟨_, rfl, leD.refl _⟩, ⟨_, rfl, leD.refl _⟩, ⟨_, rfl, leD.refl _⟩, ⟨_, rfl, leD.refl _⟩, ⟨_, rfl, leD.refl _⟩, ⟨_, rfl, leD.refl _⟩, ⟨_, rfl, leD.refl _⟩, ⟨_, rfl, leD.refl _⟩, ⟨_, rfl, leD.refl _⟩, ⟨_, rfl, leD.refl _⟩, ⟨_, rfl, leD.refl _⟩, ⟨_, rfl, leD.refl _⟩, ⟨_, rfl, leD.refl _⟩, ⟨_, rfl, leD.refl _⟩, ⟨_, rfl, leD.refl _⟩, trivial⟩ ⟨⟨_, rfl, leDL.refl _⟩, ⟨_, rfl, leDL.refl _⟩, ⟨_, rfl, leDL.refl _⟩, ⟨_, rfl, leDL.refl _⟩, ⟨_, _, rfl, (by first | rfl | simp), rfl⟩, ⟨_, _, rfl, (by first | rfl | simp), rfl⟩, ⟨_, rfl, leDL.refl _⟩, ⟨_, rfl, leDL.refl _⟩, trivial⟩, hi368, Nat.lt_succ_self _⟩
                        · replace hm := if_f h381 hm
                          cases hm
                          exact ⟨(fu367, (W (t328 + 7))), SubY.of 8 rfl ⟨⟨_, rfl, leD.refl _⟩, ⟨_, rfl, leD.refl _⟩, ⟨_, rfl, leD.refl _⟩, ⟨_, rfl, leD.refl _⟩, ⟨_, rfl, leD.refl _⟩, ⟨_, rfl, leD.refl _⟩, ⟨_, rfl, leD.refl _⟩, ⟨_, rfl, leD.refl _⟩, ⟨_, rfl, leD.refl _⟩, ⟨_, rfl, leD.refl _⟩, ⟨_, rfl, leD.refl _⟩, ⟨_, rfl, leD.refl _⟩, ⟨_, rfl, leD.refl _⟩, ⟨_, rfl, leD.refl _⟩, ⟨_, rfl, leD.refl _⟩, ⟨_, rfl, leD.refl _⟩, ⟨_, rfl, leD.refl _⟩, ⟨_, rfl, leD.refl _⟩, ⟨_, rfl, leD.refl _⟩, trivial⟩ ⟨⟨_, rfl, leDL.refl _⟩, ⟨_, rfl, leDL.refl _⟩, ⟨_, rfl, leDL.refl _⟩, ⟨_, rfl, leDL.refl _⟩, ⟨_, _, rfl, (by first | rfl | simp), rfl⟩, ⟨_, _, rfl, (by first | rfl | simp), rfl⟩, ⟨_, rfl, leDL.refl _⟩, ⟨_, rfl, leDL.refl _⟩, trivial⟩, hi368, Nat.lt_succ_self _⟩
                    · replace hm := if_f h379 hm
                      refine VIf.mk (fun (h383 : (x371 == 2) = true) => ?_) (fun (h383 : (x371 == 2) = false) => ?_)
                      · replace hm := if_t h383 hm
                        refine VIf.mk (fun (h384 : (x374 == 0) = true) => ?_) (fun (h384 : (x374 == 0) = false) => ?_)
                        · replace hm := if_t h384 hm
                          cases hm
                          cases hi368
                          have hm := hk366
                          cases hm
                          exact RetY.le (leD.refl _)
                        · replace hm := if_f h384 hm
                          cases hm
                          exact ⟨(fu367, (W (t328 + 7))), SubY.of 8 rfl ⟨⟨_, rfl, leD.refl _⟩, ⟨_, rfl, leD.refl _⟩, ⟨_, rfl, leD.refl _⟩, ⟨_, rfl, leD.refl _⟩, ⟨_, rfl, leD.refl _⟩, ⟨_, rfl, leD.refl _⟩, ⟨_, rfl, leD.refl _⟩, ⟨_, rfl, leD.refl _⟩, ⟨_, rfl, leD.refl _⟩, ⟨_, rfl, leD.refl _⟩, ⟨_, rfl, leD.refl _⟩, ⟨_, rfl, leD.refl _⟩, ⟨_, rfl, leD.refl _⟩, ⟨_, rfl, leD.refl _⟩, ⟨_, rfl, leD.refl _⟩, ⟨_, rfl, leD.refl _⟩, ⟨_, rfl, leD.refl _⟩, ⟨_, rfl, leD.refl _⟩, ⟨_, rfl, leD.refl _⟩, trivial⟩ ⟨⟨_, rfl, leDL.refl _⟩, ⟨_, rfl, leDL.refl _⟩, ⟨_, rfl, leDL.refl _⟩, ⟨_, rfl, leDL.refl _⟩, ⟨_, _, rfl, (by first | rfl | simp), rfl⟩, ⟨_, _, rfl, (by first | rfl | simp), rfl⟩, ⟨_, rfl, leDL.refl _⟩, ⟨_, rfl, leDL.refl _⟩, trivial⟩, hi368, Nat.lt_succ_self _⟩
                      · replace hm := if_f h383 hm
                        cases hm
                        exact ⟨(fu367, (W (t328 + 7))), SubY.of 8 rfl ⟨⟨_, rfl, leD.refl _⟩, ⟨_, rfl, leD.refl _⟩, ⟨_, rfl, leD.refl _⟩, ⟨_, rfl, leD.refl _⟩, ⟨_, rfl, leD.refl _⟩, ⟨_, rfl, leD.refl _⟩, ⟨_, rfl, leD.refl _⟩, ⟨_, rfl, leD.refl _⟩, ⟨_, rfl, leD.refl _⟩, ⟨_, rfl, leD.refl _⟩, ⟨_, rfl, leD.refl _⟩, ⟨_, rfl, leD.refl _⟩, ⟨_, rfl, leD.refl _⟩, ⟨_, rfl, leD.refl _⟩, ⟨_, rfl, leD.refl _⟩, ⟨_, rfl, leD.refl _⟩, ⟨_, rfl, leD.refl _⟩, ⟨_, rfl, leD.refl _⟩, ⟨_, rfl, leD.refl _⟩, trivial⟩ ⟨⟨_, rfl, leDL.refl _⟩, ⟨_, rfl, leDL.refl _⟩, ⟨_, rfl, leDL.refl _⟩, ⟨_, rfl, leDL.refl _⟩, ⟨_, _, rfl, (by first | rfl | simp), rfl⟩, ⟨_, _, rfl, (by first | rfl | simp), rfl⟩, ⟨_, rfl, leDL.refl _⟩, ⟨_, rfl, leDL.refl _⟩, trivial⟩, hi368, Nat.lt_succ_self _⟩
              · replace hm := if_f h370 hm
                cases hm
                cases hi368
                have hm := hk366
                obtain ⟨x385, hx386, hm⟩ := bd_some hm
                refine CallY.det (d_L02_sane  _ hx386) ?_
                cases hm
                exact RetY.le (leD.refl _)
            · replace hm := if_f h369 hm
              cases hm
              cases hi368
              have hm := hk366
              obtain ⟨x387, hx388, hm⟩ := bd_some hm
              refine CallY.det (d_L02_sane  _ hx388) ?_
              cases hm
              exact RetY.le (leD.refl _)

def m_moon_CheckFrac (x : TFrac) : Option Int :=
  Option.bind (m_moon_isFrac x 20000000) fun x1 =>
  if (!x1) = true then
    some 20
  else
    some 0
set_option maxRecDepth 100000 in
set_option maxHeartbeats 2000000 in
theorem d_moon_CheckFrac (x : TFrac) (r : Int) (hm : m_moon_CheckFrac x = some r) : Does Try.prog 25 [.agg (TFrac.c x)] (fun x => x = DI r) := by
  refine does_y (X := ⟨Try.prog, tt, Try.f25.ntmps, [], [], [], []⟩) pok _ Try.func25 rfl rfl (Nat.le_of_ble_eq_true rfl) ?_
  obtain ⟨x1, hx2, hm⟩ := bd_some hm
  refine CallY.det (d_moon_isFrac x 20000000 _ hx2) ?_
  refine VIf.mk (fun (h3 : (!x1) = true) => ?_) (fun (h3 : (!x1) = false) => ?_)
  · replace hm := if_t h3 hm
    cases hm
    exact RetY.le (leD.refl _)
  · replace hm := if_f h3 hm
    cases hm
    exact RetY.le (leD.refl _)

def m_moon_Reduced (x : TFrac) : Option (TFrac × Int) :=
  Option.bind (m_moon_CheckFrac x) fun x1 =>
  if (x1 != 0) = true then
    some ((⟨0, 0⟩ : TFrac), x1)
  else
    Option.bind (m_moon_reduced x) fun x4 =>
    some (x4, 0)
set_option maxRecDepth 100000 in
set_option maxHeartbeats 2000000 in
theorem d_moon_Reduced (x : TFrac) (r : (TFrac × Int)) (hm : m_moon_Reduced x = some r) : Does Try.prog 21 [.agg (TFrac.c x)] (fun x => x = .tup [.agg (TFrac.c r.1), DI r.2]) := by
  refine does_y (X := ⟨Try.prog, tt, Try.f21.ntmps, [], [], [], []⟩) pok _ Try.func21 rfl rfl (Nat.le_of_ble_eq_true rfl) ?_
  obtain ⟨x1, hx2, hm⟩ := bd_some hm
  refine CallY.det (d_moon_CheckFrac x _ hx2) ?_
  refine VIf.mk (fun (h3 : (x1 != 0) = true) => ?_) (fun (h3 : (x1 != 0) = false) => ?_)
  · replace hm := if_t h3 hm
    cases hm
    exact RetY.le (leD.refl _)
  · replace hm := if_f h3 hm
    obtain ⟨x4, hx5, hm⟩ := bd_some hm
    refine CallY.det (d_moon_reduced x _ hx5) ?_
    cases hm
    exact RetY.le (leD.refl _)

def m_R02_In (n : Int) (lo : Int) (hi : Int) : Option Bool :=
  if (decide (lo ≤ n)) = true then
    some (decide (n ≤ hi))
  else
    some false
set_option maxRecDepth 100000 in
set_option maxHeartbeats 2000000 in
theorem d_R02_In (n : Int) (lo : Int) (hi : Int) (r : Bool) (hm : m_R02_In n lo hi = some r) : Does Try.prog 123 [DI n, DI lo, DI hi] (fun x => x = DB r) := by
  refine does_y (X := ⟨Try.prog, tt, Try.f123.ntmps, [], [], [], []⟩) pok _ Try.func123 rfl rfl (Nat.le_of_ble_eq_true rfl) ?_
  refine VIf.mk (fun (h1 : (decide (lo ≤ n)) = true) => ?_) (fun (h1 : (decide (lo ≤ n)) = false) => ?_)
  · replace hm := if_t h1 hm
    cases hm
    exact RetY.le (leD.refl _)
  · replace hm := if_f h1 hm
    cases hm
    exact RetY.le (leD.refl _)

def m_R02_isFrac (x : TFrac) (most : Int) : Option Bool :=
  Option.bind (m_R02_In x.Den 1 most) fun x1 =>
  if x1 = true then
    Option.bind (m_R02_In x.Num (W ((-360) * x.Den)) (W (360 * x.Den))) fun x4 =>
    some x4
  else
    some false
set_option maxRecDepth 100000 in
set_option maxHeartbeats 2000000 in
theorem d_R02_isFrac (x : TFrac) (most : Int) (r : Bool) (hm : m_R02_isFrac x most = some r) : Does Try.prog 71 [.agg (TFrac.c x), DI most] (fun x => x = DB r) := by
  refine does_y (X := ⟨Try.prog, tt, Try.f71.ntmps, [], [], [], []⟩) pok _ Try.func71 rfl rfl (Nat.le_of_ble_eq_true rfl) ?_
  obtain ⟨x1, hx2, hm⟩ := bd_some hm
  refine CallY.det (d_R02_In x.Den 1 most _ hx2) ?_
  refine VIf.mk (fun (h3 : x1 = true) => ?_) (fun (h3 : x1 = false) => ?_)
  · replace hm := if_t h3 hm
    obtain ⟨x4, hx5, hm⟩ := bd_some hm
    refine CallY.det (d_R02_In x.Num (W ((-360) * x.Den)) (W (360 * x.Den)) _ hx5) ?_
    cases hm
    exact RetY.le (leD.refl _)
  · replace hm := if_f h3 hm
    cases hm
    exact RetY.le (leD.refl _)

def m_R02_CheckFrac (x : TFrac) : Option Int :=
  Option.bind (m_R02_isFrac x 20000000) fun x1 =>
  if (!x1) = true then
    some 20
  else
    some 0
set_option maxRecDepth 100000 in
set_option maxHeartbeats 2000000 in
theorem d_R02_CheckFrac (x : TFrac) (r : Int) (hm : m_R02_CheckFrac x = some r) : Does Try.prog 26 [.agg (TFrac.c x)] (fun x => x = DI r) := by
  refine does_y (X := ⟨Try.prog, tt, Try.f26.ntmps, [], [], [], []⟩) pok _ Try.func26 rfl rfl (Nat.le_of_ble_eq_true rfl) ?_
  obtain ⟨x1, hx2, hm⟩ := bd_some hm
  refine CallY.det (d_R02_isFrac x 20000000 _ hx2) ?_
  refine VIf.mk (fun (h3 : (!x1) = true) => ?_) (fun (h3 : (!x1) = false) => ?_)
  · replace hm := if_t h3 hm
    cases hm
    exact RetY.le (leD.refl _)
  · replace hm := if_f h3 hm
    cases hm
    exact RetY.le (leD.refl _)

def m_R02_Reduced (x : TFrac) : Option (TFrac × Int) :=
  Option.bind (m_R02_CheckFrac x) fun x1 =>
  if (x1 != 0) = true then
    some ((⟨0, 0⟩ : TFrac), 20)
  else
    Option.bind (m_R02_frac x.Num x.Den) fun x4 =>
    some (x4, 0)
set_option maxRecDepth 100000 in
set_option maxHeartbeats 2000000 in
theorem d_R02_Reduced (x : TFrac) (r : (TFrac × Int)) (hm : m_R02_Reduced x = some r) : Does Try.prog 22 [.agg (TFrac.c x)] (fun x => x = .tup [.agg (TFrac.c r.1), DI r.2]) := by
  refine does_y (X := ⟨Try.prog, tt, Try.f22.ntmps, [], [], [], []⟩) pok _ Try.func22 rfl rfl (Nat.le_of_ble_eq_true rfl) ?_
  obtain ⟨x1, hx2, hm⟩ := bd_some hm
  refine CallY.det (d_R02_CheckFrac x _ hx2) ?_
  refine VIf.mk (fun (h3 : (x1 != 0) = true) => ?_) (fun (h3 : (x1 != 0) = false) => ?_)
  · replace hm := if_t h3 hm
    cases hm
    exact RetY.le (leD.refl _)
  · replace hm := if_f h3 hm
    obtain ⟨x4, hx5, hm⟩ := bd_some hm
    refine CallY.det (d_R02_frac x.Num x.Den _ hx5) ?_
    cases hm
    exact RetY.le (leD.refl _)

def m_moon_Compare (x : TFrac) (y : TFrac) : Option (Int × Int) :=
  Option.bind (m_moon_isFrac x 20000000) fun x1 =>
  if (!x1) = true then
    some (0, 20)
  else
    Option.bind (m_moon_isFrac y 20000000) fun x4 =>
    if (!x4) = true then
      some (0, 20)
    else
      Option.bind (m_moon_compare x y) fun x7 =>
      some (x7, 0)
set_option maxRecDepth 100000 in
set_option maxHeartbeats 2000000 in
theorem d_moon_Compare (x : TFrac) (y : TFrac) (r : (Int × Int)) (hm : m_moon_Compare x y = some r) : Does Try.prog 23 [.agg (TFrac.c x), .agg (TFrac.c y)] (fun x => x = .tup [DI r.1, DI r.2]) := by
  refine does_y (X := ⟨Try.prog, tt, Try.f23.ntmps, [], [], [], []⟩) pok _ Try.func23 rfl rfl (Nat.le_of_ble_eq_true rfl) ?_
  obtain ⟨x1, hx2, hm⟩ := bd_some hm
  refine CallY.det (d_moon_isFrac x 20000000 _ hx2) ?_
  refine VIf.mk (fun (h3 : (!x1) = true) => ?_) (fun (h3 : (!x1) = false) => ?_)
  · replace hm := if_t h3 hm
    cases hm
    exact RetY.le (leD.refl _)
  · replace hm := if_f h3 hm
    obtain ⟨x4, hx5, hm⟩ := bd_some hm
    refine CallY.det (d_moon_isFrac y 20000000 _ hx5) ?_
    refine VIf.mk (fun (h6 : (!x4) = true) => ?_) (fun (h6 : (!x4) = false) => ?_)
    · replace hm := if_t h6 hm
      cases hm
      exact RetY.le (leD.refl _)
    · replace hm := if_f h6 hm
      obtain ⟨x7, hx8, hm⟩ := bd_some hm
      refine CallY.det (d_moon_compare x y _ hx8) ?_
      cases hm
      exact RetY.le (leD.refl _)

def m_R02_Compare (x : TFrac) (y : TFrac) : Option (Int × Int) :=
  Option.bind (m_R02_CheckFrac x) fun x1 =>
  if (x1 != 0) = true then
    some (0, 20)
  else
    Option.bind (m_R02_CheckFrac y) fun x4 =>
    if (x4 != 0) = true then
      some (0, 20)
    else
      Option.bind (m_R02_sign x y) fun x7 =>
      some (x7, 0)
set_option maxRecDepth 100000 in
set_option maxHeartbeats 2000000 in
theorem d_R02_Compare (x : TFrac) (y : TFrac) (r : (Int × Int)) (hm : m_R02_Compare x y = some r) : Does Try.prog 24 [.agg (TFrac.c x), .agg (TFrac.c y)] (fun x => x = .tup [DI r.1, DI r.2]) := by
  refine does_y (X := ⟨Try.prog, tt, Try.f24.ntmps, [], [], [], []⟩) pok _ Try.func24 rfl rfl (Nat.le_of_ble_eq_true rfl) ?_
  obtain ⟨x1, hx2, hm⟩ := bd_some hm
  refine CallY.det (d_R02_CheckFrac x _ hx2) ?_
  refine VIf.mk (fun (h3 : (x1 != 0) = true) => ?_) (fun (h3 : (x1 != 0) = false) => ?_)
  · replace hm := if_t h3 hm
    cases hm
    exact RetY.le (leD.refl _)
  · replace hm := if_f h3 hm
    obtain ⟨x4, hx5, hm⟩ := bd_some hm
    refine CallY.det (d_R02_CheckFrac y _ hx5) ?_
    refine VIf.mk (fun (h6 : (x4 != 0) = true) => ?_) (fun (h6 : (x4 != 0) = false) => ?_)
    · replace hm := if_t h6 hm
      cases hm
      exact RetY.le (leD.refl _)
    · replace hm := if_f h6 hm
      obtain ⟨x7, hx8, hm⟩ := bd_some hm
      refine CallY.det (d_R02_sign x y _ hx8) ?_
      cases hm
      exact RetY.le (leD.refl _)

def m_R02_isMinute (n : Int) : Option Bool :=
  Option.bind (m_R02_In n 0 1439) fun x1 =>
  some x1
set_option maxRecDepth 100000 in
set_option maxHeartbeats 2000000 in
theorem d_R02_isMinute (n : Int) (r : Bool) (hm : m_R02_isMinute n = some r) : Does Try.prog 80 [DI n] (fun x => x = DB r) := by
  refine does_y (X := ⟨Try.prog, tt, Try.f80.ntmps, [], [], [], []⟩) pok _ Try.func80 rfl rfl (Nat.le_of_ble_eq_true rfl) ?_
  obtain ⟨x1, hx2, hm⟩ := bd_some hm
  refine CallY.det (d_R02_In n 0 1439 _ hx2) ?_
  cases hm
  exact RetY.le (leD.refl _)

def m_R02_isNight (n : Int) : Option Bool :=
  Option.bind (m_R02_In n 0 100000) fun x1 =>
  some x1
set_option maxRecDepth 100000 in
set_option maxHeartbeats 2000000 in
theorem d_R02_isNight (n : Int) (r : Bool) (hm : m_R02_isNight n = some r) : Does Try.prog 105 [DI n] (fun x => x = DB r) := by
  refine does_y (X := ⟨Try.prog, tt, Try.f105.ntmps, [], [], [], []⟩) pok _ Try.func105 rfl rfl (Nat.le_of_ble_eq_true rfl) ?_
  obtain ⟨x1, hx2, hm⟩ := bd_some hm
  refine CallY.det (d_R02_In n 0 100000 _ hx2) ?_
  cases hm
  exact RetY.le (leD.refl _)

def m_R02_areTimes (known : Int) (until_ : Int) : Option Bool :=
  Option.bind (m_R02_isNight known) fun x1 =>
  if x1 = true then
    if (until_ == 0) = true then
      some true
    else
      if (decide (until_ > known)) = true then
        some (decide (until_ ≤ 100000))
      else
        some false
  else
    some false
set_option maxRecDepth 100000 in
set_option maxHeartbeats 2000000 in
theorem d_R02_areTimes (known : Int) (until_ : Int) (r : Bool) (hm : m_R02_areTimes known until_ = some r) : Does Try.prog 126 [DI known, DI until_] (fun x => x = DB r) := by
  refine does_y (X := ⟨Try.prog, tt, Try.f126.ntmps, [], [], [], []⟩) pok _ Try.func126 rfl rfl (Nat.le_of_ble_eq_true rfl) ?_
  obtain ⟨x1, hx2, hm⟩ := bd_some hm
  refine CallY.det (d_R02_isNight known _ hx2) ?_
  refine VIf.mk (fun (h3 : x1 = true) => ?_) (fun (h3 : x1 = false) => ?_)
  · replace hm := if_t h3 hm
    refine VIf.mk (fun (h4 : (until_ == 0) = true) => ?_) (fun (h4 : (until_ == 0) = false) => ?_)
    · replace hm := if_t h4 hm
      cases hm
      exact RetY.le (leD.refl _)
    · replace hm := if_f h4 hm
      refine VIf.mk (fun (h5 : (decide (until_ > known)) = true) => ?_) (fun (h5 : (decide (until_ > known)) = false) => ?_)
      · replace hm := if_t h5 hm
        cases hm
        exact RetY.le (leD.refl _)
      · replace hm := if_f h5 hm
        cases hm
        exact RetY.le (leD.refl _)
  · replace hm := if_f h3 hm
    cases hm
    exact RetY.le (leD.refl _)

def m_R02_isRow (r_ : TRow) : Option Bool :=
  Option.bind (m_R02_isMinute r_.Minute) fun x1 =>
  if (!x1) = true then
    some false
  else
    Option.bind (m_R02_isFrac r_.Height 100) fun x4 =>
    if (!x4) = true then
      some false
    else
      Option.bind (m_R02_isFrac r_.Bearing 100) fun x7 =>
      if (!x7) = true then
        some false
      else
        Option.bind (m_R02_In r_.Height.Num (W ((-90) * r_.Height.Den)) (W (90 * r_.Height.Den))) fun x10 =>
        if x10 = true then
          Option.bind (m_R02_In r_.Bearing.Num 0 (W ((W (360 * r_.Bearing.Den)) - 1))) fun x13 =>
          some x13
        else
          some false
set_option maxRecDepth 100000 in
set_option maxHeartbeats 2000000 in
theorem d_R02_isRow (r_ : TRow) (r : Bool) (hm : m_R02_isRow r_ = some r) : Does Try.prog 127 [.agg (TRow.c r_)] (fun x => x = DB r) := by
  refine does_y (X := ⟨Try.prog, tt, Try.f127.ntmps, [], [], [], []⟩) pok _ Try.func127 rfl rfl (Nat.le_of_ble_eq_true rfl) ?_
  obtain ⟨x1, hx2, hm⟩ := bd_some hm
  refine CallY.det (d_R02_isMinute r_.Minute _ hx2) ?_
  refine VIf.mk (fun (h3 : (!x1) = true) => ?_) (fun (h3 : (!x1) = false) => ?_)
  · replace hm := if_t h3 hm
    cases hm
    exact RetY.le (leD.refl _)
  · replace hm := if_f h3 hm
    obtain ⟨x4, hx5, hm⟩ := bd_some hm
    refine CallY.det (d_R02_isFrac r_.Height 100 _ hx5) ?_
    refine VIf.mk (fun (h6 : (!x4) = true) => ?_) (fun (h6 : (!x4) = false) => ?_)
    · replace hm := if_t h6 hm
      cases hm
      exact RetY.le (leD.refl _)
    · replace hm := if_f h6 hm
      obtain ⟨x7, hx8, hm⟩ := bd_some hm
      refine CallY.det (d_R02_isFrac r_.Bearing 100 _ hx8) ?_
      refine VIf.mk (fun (h9 : (!x7) = true) => ?_) (fun (h9 : (!x7) = false) => ?_)
      · replace hm := if_t h9 hm
        cases hm
        exact RetY.le (leD.refl _)
      · replace hm := if_f h9 hm
        obtain ⟨x10, hx11, hm⟩ := bd_some hm
        refine CallY.det (d_R02_In r_.Height.Num (W ((-90) * r_.Height.Den)) (W (90 * r_.Height.Den)) _ hx11) ?_
        refine VIf.mk (fun (h12 : x10 = true) => ?_) (fun (h12 : x10 = false) => ?_)
        · replace hm := if_t h12 hm
          obtain ⟨x13, hx14, hm⟩ := bd_some hm
          refine CallY.det (d_R02_In r_.Bearing.Num 0 (W ((W (360 * r_.Bearing.Den)) - 1)) _ hx14) ?_
          cases hm
          exact RetY.le (leD.refl _)
        · replace hm := if_f h12 hm
          cases hm
          exact RetY.le (leD.refl _)

def m_R02_CheckSheet_L1 (s : TSheet) : Int → Option (Sum Int (Sum Int Int)) := fun i19 =>
  if (decide (i19 < (s.Rows.length : Int))) = true then
    Option.bind (idx s.Rows i19) fun e40 =>
    Option.bind (m_R02_isRow e40) fun x42 =>
    if (!x42) = true then
      some (.inr (.inr 21))
    else
      if (decide (i19 > 0)) = true then
        Option.bind (idx s.Rows (W (i19 - 1))) fun e46 =>
        Option.bind (idx s.Rows i19) fun e48 =>
        if (decide (e46.Minute ≥ e48.Minute)) = true then
          some (.inr (.inr 21))
        else
          Option.bind (idx s.Rows (W (i19 - 1))) fun e51 =>
          Option.bind (idx s.Rows i19) fun e53 =>
          Option.bind (m_R02_sign e51.Bearing e53.Bearing) fun x55 =>
          if (decide (x55 > 0)) = true then
            some (.inr (.inr 21))
          else
            some (.inl (W (i19 + 1)))
      else
        some (.inl (W (i19 + 1)))
  else
    some (.inr (.inl i19))
def m_R02_CheckSheet (s : TSheet) : Option Int :=
  Option.bind (m_R02_In s.Source 1 99999) fun x1 =>
  if (!x1) = true then
    some 21
  else
    Option.bind (m_R02_isNight s.Night) fun x4 =>
    if (!x4) = true then
      some 21
    else
      Option.bind (m_R02_areTimes s.Known s.Until) fun x7 =>
      if (!x7) = true then
        some 21
      else
        Option.bind (m_R02_In (s.Rows.length : Int) 2 12) fun x10 =>
        if (!x10) = true then
          some 21
        else
          Option.bind (loopF (m_R02_CheckSheet_L1 s) 0) fun e =>
          match e with
          | .inl i58 =>
            Option.bind (idx s.Rows 0) fun e59 =>
            if (e59.Minute != 0) = true then
              some 21
            else
              Option.bind (idx s.Rows (W ((s.Rows.length : Int) - 1))) fun e62 =>
              if (e62.Minute != 1439) = true then
                some 21
              else
                Option.bind (m_R02_isFrac s.Off 100) fun x65 =>
                if (!x65) = true then
                  some 21
                else
                  Option.bind (m_R02_In s.Off.Num 0 (W (90 * s.Off.Den))) fun x68 =>
                  if (!x68) = true then
                    some 21
                  else
                    if (decide (s.Light.Lo < 0)) = true then
                      some 21
                    else
                      if (decide (s.Light.Lo > s.Light.Hi)) = true then
                        some 21
                      else
                        if (decide (s.Light.Hi > 1000)) = true then
                          some 21
                        else
                          some 0
          | .inr rr74 =>
            some rr74
set_option maxRecDepth 100000 in
set_option maxHeartbeats 2000000 in
theorem d_R02_CheckSheet (s : TSheet) (r : Int) (hm : m_R02_CheckSheet s = some r) : Does Try.prog 79 [.agg (TSheet.c s)] (fun x => x = DI r) := by
  refine does_y (X := ⟨Try.prog, tt, Try.f79.ntmps, pl79, [], [], []⟩) pok _ Try.func79 rfl rfl (Nat.le_of_ble_eq_true rfl) ?_
  obtain ⟨x1, hx2, hm⟩ := bd_some hm
  refine CallY.det (d_R02_In s.Source 1 99999 _ hx2) ?_
  refine VIf.mk (fun (h3 : (!x1) = true) => ?_) (fun (h3 : (!x1) = false) => ?_)
  · replace hm := if_t h3 hm
    cases hm
    exact RetY.le (leD.refl _)
  · replace hm := if_f h3 hm
    obtain ⟨x4, hx5, hm⟩ := bd_some hm
    refine CallY.det (d_R02_isNight s.Night _ hx5) ?_
    refine VIf.mk (fun (h6 : (!x4) = true) => ?_) (fun (h6 : (!x4) = false) => ?_)
    · replace hm := if_t h6 hm
      cases hm
      exact RetY.le (leD.refl _)
    · replace hm := if_f h6 hm
      obtain ⟨x7, hx8, hm⟩ := bd_some hm
      refine CallY.det (d_R02_areTimes s.Known s.Until _ hx8) ?_
      refine VIf.mk (fun (h9 : (!x7) = true) => ?_) (fun (h9 : (!x7) = false) => ?_)
      · replace hm := if_t h9 hm
        cases hm
        exact RetY.le (leD.refl _)
      · replace hm := if_f h9 hm
        obtain ⟨x10, hx11, hm⟩ := bd_some hm
        refine CallY.det (d_R02_In ((s.Rows.length : Int)) 2 12 _ hx11) ?_
        refine VIf.mk (fun (h12 : (!x10) = true) => ?_) (fun (h12 : (!x10) = false) => ?_)
        · replace hm := if_t h12 hm
          cases hm
          exact RetY.le (leD.refl _)
        · replace hm := if_f h12 hm
          obtain ⟨ev75, he, hk76⟩ := bd_some hm
          refine LoopY.of (fun (lpx : Nat × Int) => match lpx with | (fu77, i19) => (⟨[(0, .agg [DI s.Source, DI s.Night, DI s.Known, DI s.Until, .lst 5 s.Rows.length (s.Rows.flatMap TRow.c), DI s.Off.Num, DI s.Off.Den, DI s.Light.Lo, DI s.Light.Hi]), (1, .own 0 0), (2, DI 0), (3, DI (s.Rows.length : Int)), (4, DI i19), (30, DB (!x10))], [(0, .blk [DI s.Source, DI s.Night, DI s.Known, DI s.Until, .lst 5 s.Rows.length (s.Rows.flatMap TRow.c), DI s.Off.Num, DI s.Off.Den, DI s.Light.Lo, DI s.Light.Hi] 41)], 1⟩ : Sy)) (fun lpx => loopO (m_R02_CheckSheet_L1 s) lpx.1 lpx.2 = some ev75) (fun lpx => lpx.1) (FUEL, 0) (SubY.of 1 rfl ⟨⟨_, rfl, leD.refl _⟩, ⟨_, rfl, leD.refl _⟩, ⟨_, rfl, leD.refl _⟩, ⟨_, rfl, leD.refl _⟩, ⟨_, rfl, leD.refl _⟩, ⟨_, rfl, leD.refl _⟩, trivial⟩ ⟨⟨_, rfl, leDL.refl _⟩, trivial⟩) he ?_
          rintro ⟨fu77, i19⟩ hi78
          obtain ⟨fu77, b, rfl, hm, hi78⟩ := loop_step hi78
          refine VIf.mk (fun (h79 : (decide (i19 < (s.Rows.length : Int))) = true) => ?_) (fun (h79 : (decide (i19 < (s.Rows.length : Int))) = false) => ?_)
          · replace hm := if_t h79 hm
            obtain ⟨e80, hx81, hm⟩ := bd_some hm
            refine ⟨_, el_idx (fun _ => rfl) hx81, ?_⟩
            obtain ⟨x82, hx83, hm⟩ := bd_some hm
            refine CallY.det (d_R02_isRow e80 _ hx83) ?_
            refine VIf.mk (fun (h84 : (!x82) = true) => ?_) (fun (h84 : (!x82) = false) => ?_)
            · replace hm := if_t h84 hm
              cases hm
              cases hi78
              have hm := hk76
              cases hm
              exact RetY.le (leD.refl _)
            · replace hm := if_f h84 hm
              refine ⟨rfl, ?_⟩
              refine VIf.mk (fun (h85 : (decide (i19 > 0)) = true) => ?_) (fun (h85 : (decide (i19 > 0)) = false) => ?_)
              · replace hm := if_t h85 hm
                obtain ⟨e86, hx87, hm⟩ := bd_some hm
                refine ⟨_, el_idx (fun _ => rfl) hx87, ?_⟩
                obtain ⟨e88, hx89, hm⟩ := bd_some hm
                refine ⟨_, el_idx (fun _ => rfl) hx89, ?_⟩
                refine VIf.mk (fun (h90 : (decide (e86.Minute ≥ e88.Minute)) = true) => ?_) (fun (h90 : (decide (e86.Minute ≥ e88.Minute)) = false) => ?_)
                · replace hm := if_t h90 hm
                  cases hm
                  cases hi78
                  have hm := hk76
                  cases hm
                  exact RetY.le (leD.refl _)
                · replace hm := if_f h90 hm
                  obtain ⟨e91, hx92, hm⟩ := bd_some hm
                  refine ⟨_, el_idx (fun _ => rfl) hx92, ?_⟩
                  obtain ⟨e93, hx94, hm⟩ := bd_some hm
                  refine ⟨_, el_idx (fun _ => rfl) hx94, ?_⟩
                  obtain ⟨x95, hx96, hm⟩ := bd_some hm
                  refine CallY.det (d_R02_sign e91.Bearing e93.Bearing _ hx96) ?_
                  refine VIf.mk (fun (h97 : (decide (x95 > 0)) = true) => ?_) (fun (h97 : (decide (x95 > 0)) = false) => ?_)
                  · replace hm := if_t h97 hm
                    cases hm
                    cases hi78
                    have hm := hk76
                    cases hm
                    exact RetY.le (leD.refl _)
                  · replace hm := if_f h97 hm
                    cases hm
                    exact ⟨(fu77, (W (i19 + 1))), SubY.of 1 rfl ⟨⟨_, rfl, leD.refl _⟩, ⟨_, rfl, leD.refl _⟩, ⟨_, rfl, leD.refl _⟩, ⟨_, rfl, leD.refl _⟩, ⟨_, rfl, leD.refl _⟩, ⟨_, rfl, leD.refl _⟩, trivial⟩ ⟨⟨_, rfl, leDL.refl _⟩, trivial⟩, hi78, Nat.lt_succ_self _⟩
              · replace hm := if_f h85 hm
                cases hm
                exact ⟨(fu77, (W (i19 + 1))), SubY.of 1 rfl ⟨⟨_, rfl, leD.refl _⟩, ⟨_, rfl, leD.refl _⟩, ⟨_, rfl, leD.refl _⟩, ⟨_, rfl, leD.refl _⟩, ⟨_, rfl, leD.refl _⟩, ⟨_, rfl, leD.refl _⟩, trivial⟩ ⟨⟨_, rfl, leDL.refl _⟩, trivial⟩, hi78, Nat.lt_succ_self _⟩
          · replace hm := if_f h79 hm
            cases hm
            cases hi78
            have hm := hk76
            obtain ⟨e98, hx99, hm⟩ := bd_some hm
            refine ⟨_, el_idx (fun _ => rfl) hx99, ?_⟩
            refine VIf.mk (fun (h100 : (e98.Minute != 0) = true) => ?_) (fun (h100 : (e98.Minute != 0) = false) => ?_)
            · replace hm := if_t h100 hm
              cases hm
              exact RetY.le (leD.refl _)
            · replace hm := if_f h100 hm
              obtain ⟨e101, hx102, hm⟩ := bd_some hm
              refine ⟨_, el_idx (fun _ => rfl) hx102, ?_⟩
              refine VIf.mk (fun (h103 : (e101.Minute != 1439) = true) => ?_) (fun (h103 : (e101.Minute != 1439) = false) => ?_)
              · replace hm := if_t h103 hm
                cases hm
                exact RetY.le (leD.refl _)
              · replace hm := if_f h103 hm
                obtain ⟨x104, hx105, hm⟩ := bd_some hm
                refine CallY.det (d_R02_isFrac s.Off 100 _ hx105) ?_
                refine VIf.mk (fun (h106 : (!x104) = true) => ?_) (fun (h106 : (!x104) = false) => ?_)
                · replace hm := if_t h106 hm
                  cases hm
                  exact RetY.le (leD.refl _)
                · replace hm := if_f h106 hm
                  obtain ⟨x107, hx108, hm⟩ := bd_some hm
                  refine CallY.det (d_R02_In s.Off.Num 0 (W (90 * s.Off.Den)) _ hx108) ?_
                  refine VIf.mk (fun (h109 : (!x107) = true) => ?_) (fun (h109 : (!x107) = false) => ?_)
                  · replace hm := if_t h109 hm
                    cases hm
                    exact RetY.le (leD.refl _)
                  · replace hm := if_f h109 hm
                    refine VIf.mk (fun (h110 : (decide (s.Light.Lo < 0)) = true) => ?_) (fun (h110 : (decide (s.Light.Lo < 0)) = false) => ?_)
                    · replace hm := if_t h110 hm
                      cases hm
                      exact RetY.le (leD.refl _)
                    · replace hm := if_f h110 hm
                      refine VIf.mk (fun (h111 : (decide (s.Light.Lo > s.Light.Hi)) = true) => ?_) (fun (h111 : (decide (s.Light.Lo > s.Light.Hi)) = false) => ?_)
                      · replace hm := if_t h111 hm
                        cases hm
                        exact RetY.le (leD.refl _)
                      · replace hm := if_f h111 hm
                        refine VIf.mk (fun (h112 : (decide (s.Light.Hi > 1000)) = true) => ?_) (fun (h112 : (decide (s.Light.Hi > 1000)) = false) => ?_)
                        · replace hm := if_t h112 hm
                          cases hm
                          exact RetY.le (leD.refl _)
                        · replace hm := if_f h112 hm
                          cases hm
                          exact RetY.le (leD.refl _)

def m_R02_CheckRoof (r_ : TRoof) : Option Int :=
  if (decide (r_.From < 0)) = true then
    some 22
  else
    if (decide (r_.From ≥ r_.To)) = true then
      some 22
    else
      if (decide (r_.To > 360)) = true then
        some 22
      else
        Option.bind (m_R02_In r_.Top 0 90) fun x4 =>
        if (!x4) = true then
          some 22
        else
          some 0
set_option maxRecDepth 100000 in
set_option maxHeartbeats 2000000 in
theorem d_R02_CheckRoof (r_ : TRoof) (r : Int) (hm : m_R02_CheckRoof r_ = some r) : Does Try.prog 131 [.agg (TRoof.c r_)] (fun x => x = DI r) := by
  refine does_y (X := ⟨Try.prog, tt, Try.f131.ntmps, [], [], [], []⟩) pok _ Try.func131 rfl rfl (Nat.le_of_ble_eq_true rfl) ?_
  refine VIf.mk (fun (h1 : (decide (r_.From < 0)) = true) => ?_) (fun (h1 : (decide (r_.From < 0)) = false) => ?_)
  · replace hm := if_t h1 hm
    cases hm
    exact RetY.le (leD.refl _)
  · replace hm := if_f h1 hm
    refine VIf.mk (fun (h2 : (decide (r_.From ≥ r_.To)) = true) => ?_) (fun (h2 : (decide (r_.From ≥ r_.To)) = false) => ?_)
    · replace hm := if_t h2 hm
      cases hm
      exact RetY.le (leD.refl _)
    · replace hm := if_f h2 hm
      refine VIf.mk (fun (h3 : (decide (r_.To > 360)) = true) => ?_) (fun (h3 : (decide (r_.To > 360)) = false) => ?_)
      · replace hm := if_t h3 hm
        cases hm
        exact RetY.le (leD.refl _)
      · replace hm := if_f h3 hm
        obtain ⟨x4, hx5, hm⟩ := bd_some hm
        refine CallY.det (d_R02_In r_.Top 0 90 _ hx5) ?_
        refine VIf.mk (fun (h6 : (!x4) = true) => ?_) (fun (h6 : (!x4) = false) => ?_)
        · replace hm := if_t h6 hm
          cases hm
          exact RetY.le (leD.refl _)
        · replace hm := if_f h6 hm
          cases hm
          exact RetY.le (leD.refl _)

def m_R02_areRoofs_L1 (l : (List TRoof)) : Int → Option (Sum Int (Sum Int Bool)) := fun i8 =>
  if (decide (i8 < (l.length : Int))) = true then
    Option.bind (idx l i8) fun e16 =>
    Option.bind (m_R02_CheckRoof e16) fun x18 =>
    if (x18 != 0) = true then
      some (.inr (.inr false))
    else
      some (.inl (W (i8 + 1)))
  else
    some (.inr (.inl i8))
def m_R02_areRoofs (l : (List TRoof)) : Option Bool :=
  if (decide ((l.length : Int) > 12)) = true then
    some false
  else
    Option.bind (loopF (m_R02_areRoofs_L1 l) 0) fun e =>
    match e with
    | .inl i21 =>
      some true
    | .inr rr22 =>
      some rr22
set_option maxRecDepth 100000 in
set_option maxHeartbeats 2000000 in
theorem d_R02_areRoofs (l : (List TRoof)) (r : Bool) (hm : m_R02_areRoofs l = some r) : Does Try.prog 85 [.lst 3 l.length (l.flatMap TRoof.c)] (fun x => x = DB r) := by
  refine does_y (X := ⟨Try.prog, tt, Try.f85.ntmps, [], [], [], []⟩) pok _ Try.func85 rfl rfl (Nat.le_of_ble_eq_true rfl) ?_
  refine VIf.mk (fun (h1 : (decide ((l.length : Int) > 12)) = true) => ?_) (fun (h1 : (decide ((l.length : Int) > 12)) = false) => ?_)
  · replace hm := if_t h1 hm
    cases hm
    exact RetY.le (leD.refl _)
  · replace hm := if_f h1 hm
    obtain ⟨ev23, he, hk24⟩ := bd_some hm
    refine LoopY.of (fun (lpx : Nat × Int) => match lpx with | (fu25, i8) => (⟨[(0, .lst 3 l.length (l.flatMap TRoof.c)), (2, DB false), (3, DI i8), (6, DB (decide ((l.length : Int) > 12)))], [], 0⟩ : Sy)) (fun lpx => loopO (m_R02_areRoofs_L1 l) lpx.1 lpx.2 = some ev23) (fun lpx => lpx.1) (FUEL, 0) (SubY.of 0 rfl ⟨⟨_, rfl, leD.refl _⟩, ⟨_, rfl, leD.refl _⟩, ⟨_, rfl, leD.refl _⟩, ⟨_, rfl, leD.refl _⟩, trivial⟩ trivial) he ?_
    rintro ⟨fu25, i8⟩ hi26
    obtain ⟨fu25, b, rfl, hm, hi26⟩ := loop_step hi26
    refine VIf.mk (fun (h27 : (decide (i8 < (l.length : Int))) = true) => ?_) (fun (h27 : (decide (i8 < (l.length : Int))) = false) => ?_)
    · replace hm := if_t h27 hm
      obtain ⟨e28, hx29, hm⟩ := bd_some hm
      refine ⟨_, el_idx (fun _ => rfl) hx29, ?_⟩
      obtain ⟨x30, hx31, hm⟩ := bd_some hm
      refine CallY.det (d_R02_CheckRoof e28 _ hx31) ?_
      refine VIf.mk (fun (h32 : (x30 != 0) = true) => ?_) (fun (h32 : (x30 != 0) = false) => ?_)
      · replace hm := if_t h32 hm
        cases hm
        cases hi26
        have hm := hk24
        cases hm
        exact RetY.le (leD.refl _)
      · replace hm := if_f h32 hm
        cases hm
        exact ⟨(fu25, (W (i8 + 1))), SubY.of 0 rfl ⟨⟨_, rfl, leD.refl _⟩, ⟨_, rfl, leD.refl _⟩, ⟨_, rfl, leD.refl _⟩, ⟨_, rfl, leD.refl _⟩, trivial⟩ trivial, hi26, Nat.lt_succ_self _⟩
    · replace hm := if_f h27 hm
      cases hm
      cases hi26
      have hm := hk24
      cases hm
      exact RetY.le (leD.refl _)

def m_moon_asked (s : TSheet) (minute : Int) : Option Int :=
  Option.bind (m_moon_CheckSheet s) fun x1 =>
  if (x1 != 0) = true then
    some x1
  else
    Option.bind (m_moon_isMinute minute) fun x4 =>
    if (!x4) = true then
      some 1
    else
      some 0
set_option maxRecDepth 100000 in
set_option maxHeartbeats 2000000 in
theorem d_moon_asked (s : TSheet) (minute : Int) (r : Int) (hm : m_moon_asked s minute = some r) : Does Try.prog 76 [.agg (TSheet.c s), DI minute] (fun x => x = DI r) := by
  refine does_y (X := ⟨Try.prog, tt, Try.f76.ntmps, [], [], [], []⟩) pok _ Try.func76 rfl rfl (Nat.le_of_ble_eq_true rfl) ?_
  obtain ⟨x1, hx2, hm⟩ := bd_some hm
  refine CallY.det (d_moon_CheckSheet s _ hx2) ?_
  refine VIf.mk (fun (h3 : (x1 != 0) = true) => ?_) (fun (h3 : (x1 != 0) = false) => ?_)
  · replace hm := if_t h3 hm
    cases hm
    exact RetY.le (leD.refl _)
  · replace hm := if_f h3 hm
    obtain ⟨x4, hx5, hm⟩ := bd_some hm
    refine CallY.det (d_moon_isMinute minute _ hx5) ?_
    refine VIf.mk (fun (h6 : (!x4) = true) => ?_) (fun (h6 : (!x4) = false) => ?_)
    · replace hm := if_t h6 hm
      cases hm
      exact RetY.le (leD.refl _)
    · replace hm := if_f h6 hm
      cases hm
      exact RetY.le (leD.refl _)

def m_moon_Height (s : TSheet) (minute : Int) : Option (TFrac × Int) :=
  Option.bind (m_moon_asked s minute) fun x1 =>
  if (x1 != 0) = true then
    some ((⟨0, 0⟩ : TFrac), x1)
  else
    Option.bind (m_moon_at__moon_heightOf s minute) fun x4 =>
    some (x4, 0)
set_option maxRecDepth 100000 in
set_option maxHeartbeats 2000000 in
theorem d_moon_Height (s : TSheet) (minute : Int) (r : (TFrac × Int)) (hm : m_moon_Height s minute = some r) : Does Try.prog 33 [.agg (TSheet.c s), DI minute] (fun x => x = .tup [.agg (TFrac.c r.1), DI r.2]) := by
  refine does_y (X := ⟨Try.prog, tt, Try.f33.ntmps, [], [], [], []⟩) pok _ Try.func33 rfl rfl (Nat.le_of_ble_eq_true rfl) ?_
  obtain ⟨x1, hx2, hm⟩ := bd_some hm
  refine CallY.det (d_moon_asked s minute _ hx2) ?_
  refine VIf.mk (fun (h3 : (x1 != 0) = true) => ?_) (fun (h3 : (x1 != 0) = false) => ?_)
  · replace hm := if_t h3 hm
    cases hm
    exact RetY.le (leD.refl _)
  · replace hm := if_f h3 hm
    obtain ⟨x4, hx5, hm⟩ := bd_some hm
    refine CallY.det (d_moon_at__moon_heightOf s minute _ hx5) ?_
    cases hm
    exact RetY.le (leD.refl _)

def m_R02_Height (s : TSheet) (minute : Int) : Option (TFrac × Int) :=
  Option.bind (m_R02_CheckSheet s) fun x1 =>
  if (x1 != 0) = true then
    some ((⟨0, 0⟩ : TFrac), 21)
  else
    Option.bind (m_R02_isMinute minute) fun x4 =>
    if (!x4) = true then
      some ((⟨0, 0⟩ : TFrac), 1)
    else
      Option.bind (m_R02_place s minute) fun ⟨x7, x8⟩ =>
      some (x7, 0)
set_option maxRecDepth 100000 in
set_option maxHeartbeats 2000000 in
theorem d_R02_Height (s : TSheet) (minute : Int) (r : (TFrac × Int)) (hm : m_R02_Height s minute = some r) : Does Try.prog 34 [.agg (TSheet.c s), DI minute] (fun x => x = .tup [.agg (TFrac.c r.1), DI r.2]) := by
  refine does_y (X := ⟨Try.prog, tt, Try.f34.ntmps, [], [], [], []⟩) pok _ Try.func34 rfl rfl (Nat.le_of_ble_eq_true rfl) ?_
  obtain ⟨x1, hx2, hm⟩ := bd_some hm
  refine CallY.det (d_R02_CheckSheet s _ hx2) ?_
  refine VIf.mk (fun (h3 : (x1 != 0) = true) => ?_) (fun (h3 : (x1 != 0) = false) => ?_)
  · replace hm := if_t h3 hm
    cases hm
    exact RetY.le (leD.refl _)
  · replace hm := if_f h3 hm
    obtain ⟨x4, hx5, hm⟩ := bd_some hm
    refine CallY.det (d_R02_isMinute minute _ hx5) ?_
    refine VIf.mk (fun (h6 : (!x4) = true) => ?_) (fun (h6 : (!x4) = false) => ?_)
    · replace hm := if_t h6 hm
      cases hm
      exact RetY.le (leD.refl _)
    · replace hm := if_f h6 hm
      obtain ⟨⟨x7, x8⟩, hx9, hm⟩ := bd_some hm
      refine CallY.det (d_R02_place s minute _ hx9) ?_
      cases hm
      exact RetY.le (leD.refl _)

def m_moon_Bearing (s : TSheet) (minute : Int) : Option (TFrac × Int) :=
  Option.bind (m_moon_asked s minute) fun x1 =>
  if (x1 != 0) = true then
    some ((⟨0, 0⟩ : TFrac), x1)
  else
    Option.bind (m_moon_at__moon_bearingOf s minute) fun x4 =>
    some (x4, 0)
set_option maxRecDepth 100000 in
set_option maxHeartbeats 2000000 in
theorem d_moon_Bearing (s : TSheet) (minute : Int) (r : (TFrac × Int)) (hm : m_moon_Bearing s minute = some r) : Does Try.prog 35 [.agg (TSheet.c s), DI minute] (fun x => x = .tup [.agg (TFrac.c r.1), DI r.2]) := by
  refine does_y (X := ⟨Try.prog, tt, Try.f35.ntmps, [], [], [], []⟩) pok _ Try.func35 rfl rfl (Nat.le_of_ble_eq_true rfl) ?_
  obtain ⟨x1, hx2, hm⟩ := bd_some hm
  refine CallY.det (d_moon_asked s minute _ hx2) ?_
  refine VIf.mk (fun (h3 : (x1 != 0) = true) => ?_) (fun (h3 : (x1 != 0) = false) => ?_)
  · replace hm := if_t h3 hm
    cases hm
    exact RetY.le (leD.refl _)
  · replace hm := if_f h3 hm
    obtain ⟨x4, hx5, hm⟩ := bd_some hm
    refine CallY.det (d_moon_at__moon_bearingOf s minute _ hx5) ?_
    cases hm
    exact RetY.le (leD.refl _)

def m_R02_Bearing (s : TSheet) (minute : Int) : Option (TFrac × Int) :=
  Option.bind (m_R02_CheckSheet s) fun x1 =>
  if (x1 != 0) = true then
    some ((⟨0, 0⟩ : TFrac), 21)
  else
    Option.bind (m_R02_isMinute minute) fun x4 =>
    if (!x4) = true then
      some ((⟨0, 0⟩ : TFrac), 1)
    else
      Option.bind (m_R02_place s minute) fun ⟨x7, x8⟩ =>
      some (x8, 0)
set_option maxRecDepth 100000 in
set_option maxHeartbeats 2000000 in
theorem d_R02_Bearing (s : TSheet) (minute : Int) (r : (TFrac × Int)) (hm : m_R02_Bearing s minute = some r) : Does Try.prog 36 [.agg (TSheet.c s), DI minute] (fun x => x = .tup [.agg (TFrac.c r.1), DI r.2]) := by
  refine does_y (X := ⟨Try.prog, tt, Try.f36.ntmps, [], [], [], []⟩) pok _ Try.func36 rfl rfl (Nat.le_of_ble_eq_true rfl) ?_
  obtain ⟨x1, hx2, hm⟩ := bd_some hm
  refine CallY.det (d_R02_CheckSheet s _ hx2) ?_
  refine VIf.mk (fun (h3 : (x1 != 0) = true) => ?_) (fun (h3 : (x1 != 0) = false) => ?_)
  · replace hm := if_t h3 hm
    cases hm
    exact RetY.le (leD.refl _)
  · replace hm := if_f h3 hm
    obtain ⟨x4, hx5, hm⟩ := bd_some hm
    refine CallY.det (d_R02_isMinute minute _ hx5) ?_
    refine VIf.mk (fun (h6 : (!x4) = true) => ?_) (fun (h6 : (!x4) = false) => ?_)
    · replace hm := if_t h6 hm
      cases hm
      exact RetY.le (leD.refl _)
    · replace hm := if_f h6 hm
      obtain ⟨⟨x7, x8⟩, hx9, hm⟩ := bd_some hm
      refine CallY.det (d_R02_place s minute _ hx9) ?_
      cases hm
      exact RetY.le (leD.refl _)

def m_moon_Horizon (l : (List TRoof)) (bearing : TFrac) : Option (Int × Int) :=
  Option.bind (m_moon_areRoofs l) fun x1 =>
  if (!x1) = true then
    some (0, 22)
  else
    Option.bind (m_moon_isFrac bearing 20000000) fun x4 =>
    if (!x4) = true then
      some (0, 20)
    else
      if (decide (bearing.Num < 0)) = true then
        some (0, 20)
      else
        if (decide (bearing.Num ≥ (W (360 * bearing.Den)))) = true then
          some (0, 20)
        else
          Option.bind (m_moon_horizon l bearing) fun x9 =>
          some (x9, 0)
set_option maxRecDepth 100000 in
set_option maxHeartbeats 2000000 in
theorem d_moon_Horizon (l : (List TRoof)) (bearing : TFrac) (r : (Int × Int)) (hm : m_moon_Horizon l bearing = some r) : Does Try.prog 37 [.lst 3 l.length (l.flatMap TRoof.c), .agg (TFrac.c bearing)] (fun x => x = .tup [DI r.1, DI r.2]) := by
  refine does_y (X := ⟨Try.prog, tt, Try.f37.ntmps, [], [], [], []⟩) pok _ Try.func37 rfl rfl (Nat.le_of_ble_eq_true rfl) ?_
  obtain ⟨x1, hx2, hm⟩ := bd_some hm
  refine CallY.det (d_moon_areRoofs l _ hx2) ?_
  refine VIf.mk (fun (h3 : (!x1) = true) => ?_) (fun (h3 : (!x1) = false) => ?_)
  · replace hm := if_t h3 hm
    cases hm
    exact RetY.le (leD.refl _)
  · replace hm := if_f h3 hm
    obtain ⟨x4, hx5, hm⟩ := bd_some hm
    refine CallY.det (d_moon_isFrac bearing 20000000 _ hx5) ?_
    refine VIf.mk (fun (h6 : (!x4) = true) => ?_) (fun (h6 : (!x4) = false) => ?_)
    · replace hm := if_t h6 hm
      cases hm
      exact RetY.le (leD.refl _)
    · replace hm := if_f h6 hm
      refine VIf.mk (fun (h7 : (decide (bearing.Num < 0)) = true) => ?_) (fun (h7 : (decide (bearing.Num < 0)) = false) => ?_)
      · replace hm := if_t h7 hm
        cases hm
        exact RetY.le (leD.refl _)
      · replace hm := if_f h7 hm
        refine VIf.mk (fun (h8 : (decide (bearing.Num ≥ (W (360 * bearing.Den)))) = true) => ?_) (fun (h8 : (decide (bearing.Num ≥ (W (360 * bearing.Den)))) = false) => ?_)
        · replace hm := if_t h8 hm
          cases hm
          exact RetY.le (leD.refl _)
        · replace hm := if_f h8 hm
          obtain ⟨x9, hx10, hm⟩ := bd_some hm
          refine CallY.det (d_moon_horizon l bearing _ hx10) ?_
          cases hm
          exact RetY.le (leD.refl _)

def m_R02_Horizon (l : (List TRoof)) (bearing : TFrac) : Option (Int × Int) :=
  Option.bind (m_R02_areRoofs l) fun x1 =>
  if (!x1) = true then
    some (0, 22)
  else
    Option.bind (m_R02_CheckFrac bearing) fun x4 =>
    if (x4 != 0) = true then
      some (0, 20)
    else
      if (decide (bearing.Num < 0)) = true then
        some (0, 20)
      else
        if (decide (bearing.Num ≥ (W (360 * bearing.Den)))) = true then
          some (0, 20)
        else
          Option.bind (m_R02_horizon l bearing) fun x9 =>
          some (x9, 0)
set_option maxRecDepth 100000 in
set_option maxHeartbeats 2000000 in
theorem d_R02_Horizon (l : (List TRoof)) (bearing : TFrac) (r : (Int × Int)) (hm : m_R02_Horizon l bearing = some r) : Does Try.prog 38 [.lst 3 l.length (l.flatMap TRoof.c), .agg (TFrac.c bearing)] (fun x => x = .tup [DI r.1, DI r.2]) := by
  refine does_y (X := ⟨Try.prog, tt, Try.f38.ntmps, [], [], [], []⟩) pok _ Try.func38 rfl rfl (Nat.le_of_ble_eq_true rfl) ?_
  obtain ⟨x1, hx2, hm⟩ := bd_some hm
  refine CallY.det (d_R02_areRoofs l _ hx2) ?_
  refine VIf.mk (fun (h3 : (!x1) = true) => ?_) (fun (h3 : (!x1) = false) => ?_)
  · replace hm := if_t h3 hm
    cases hm
    exact RetY.le (leD.refl _)
  · replace hm := if_f h3 hm
    obtain ⟨x4, hx5, hm⟩ := bd_some hm
    refine CallY.det (d_R02_CheckFrac bearing _ hx5) ?_
    refine VIf.mk (fun (h6 : (x4 != 0) = true) => ?_) (fun (h6 : (x4 != 0) = false) => ?_)
    · replace hm := if_t h6 hm
      cases hm
      exact RetY.le (leD.refl _)
    · replace hm := if_f h6 hm
      refine VIf.mk (fun (h7 : (decide (bearing.Num < 0)) = true) => ?_) (fun (h7 : (decide (bearing.Num < 0)) = false) => ?_)
      · replace hm := if_t h7 hm
        cases hm
        exact RetY.le (leD.refl _)
      · replace hm := if_f h7 hm
        refine VIf.mk (fun (h8 : (decide (bearing.Num ≥ (W (360 * bearing.Den)))) = true) => ?_) (fun (h8 : (decide (bearing.Num ≥ (W (360 * bearing.Den)))) = false) => ?_)
        · replace hm := if_t h8 hm
          cases hm
          exact RetY.le (leD.refl _)
        · replace hm := if_f h8 hm
          obtain ⟨x9, hx10, hm⟩ := bd_some hm
          refine CallY.det (d_R02_horizon l bearing _ hx10) ?_
          cases hm
          exact RetY.le (leD.refl _)

def m_R02_Margin (s : TSheet) (l : (List TRoof)) (minute : Int) : Option (TFrac × Int) :=
  Option.bind (m_R02_CheckSheet s) fun x1 =>
  if (x1 != 0) = true then
    some ((⟨0, 0⟩ : TFrac), 21)
  else
    Option.bind (m_R02_areRoofs l) fun x4 =>
    if (!x4) = true then
      some ((⟨0, 0⟩ : TFrac), 22)
    else
      Option.bind (m_R02_isMinute minute) fun x7 =>
      if (!x7) = true then
        some ((⟨0, 0⟩ : TFrac), 1)
      else
        Option.bind (m_R02_margin s l minute) fun x10 =>
        some (x10, 0)
set_option maxRecDepth 100000 in
set_option maxHeartbeats 2000000 in
theorem d_R02_Margin (s : TSheet) (l : (List TRoof)) (minute : Int) (r : (TFrac × Int)) (hm : m_R02_Margin s l minute = some r) : Does Try.prog 40 [.agg (TSheet.c s), .lst 3 l.length (l.flatMap TRoof.c), DI minute] (fun x => x = .tup [.agg (TFrac.c r.1), DI r.2]) := by
  refine does_y (X := ⟨Try.prog, tt, Try.f40.ntmps, [], [], [], []⟩) pok _ Try.func40 rfl rfl (Nat.le_of_ble_eq_true rfl) ?_
  obtain ⟨x1, hx2, hm⟩ := bd_some hm
  refine CallY.det (d_R02_CheckSheet s _ hx2) ?_
  refine VIf.mk (fun (h3 : (x1 != 0) = true) => ?_) (fun (h3 : (x1 != 0) = false) => ?_)
  · replace hm := if_t h3 hm
    cases hm
    exact RetY.le (leD.refl _)
  · replace hm := if_f h3 hm
    obtain ⟨x4, hx5, hm⟩ := bd_some hm
    refine CallY.det (d_R02_areRoofs l _ hx5) ?_
    refine VIf.mk (fun (h6 : (!x4) = true) => ?_) (fun (h6 : (!x4) = false) => ?_)
    · replace hm := if_t h6 hm
      cases hm
      exact RetY.le (leD.refl _)
    · replace hm := if_f h6 hm
      obtain ⟨x7, hx8, hm⟩ := bd_some hm
      refine CallY.det (d_R02_isMinute minute _ hx8) ?_
      refine VIf.mk (fun (h9 : (!x7) = true) => ?_) (fun (h9 : (!x7) = false) => ?_)
      · replace hm := if_t h9 hm
        cases hm
        exact RetY.le (leD.refl _)
      · replace hm := if_f h9 hm
        obtain ⟨x10, hx11, hm⟩ := bd_some hm
        refine CallY.det (d_R02_margin s l minute _ hx11) ?_
        cases hm
        exact RetY.le (leD.refl _)

end Go.Proofs.Ytdhjccionnbljaa
