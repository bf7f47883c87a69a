/- Functions of the program as pure Lean functions, and that calls do what these say. Printed by a program out of the given form. -/
import Derived.Test.YtdhjccionnbljaaL1
set_option linter.unusedVariables false
set_option linter.unusedSimpArgs false
namespace Go.Proofs.Ytdhjccionnbljaa
open Go Go.RowKit Go.Sx
def m_L02_sane : Option Bool :=
  Option.bind (m_L02_example ) fun x1 =>
  Option.bind (idx x1.Sheets 0) fun e3 =>
  Option.bind (m_moon_Margin e3 x1.Roofs 530) fun ⟨x5, x6⟩ =>
  Option.bind (m_moon_Slip x1 5 6) fun ⟨x8, x9⟩ =>
  Option.bind (m_moon_Conflict x1 5 7) fun ⟨x11, x12⟩ =>
  Option.bind (m_moon_Above x1 5 3 476) fun ⟨x14, x15⟩ =>
  Option.bind (m_moon_Rises x1 5 6 400 700) fun ⟨x17, x18⟩ =>
  Option.bind (m_moon_Whole x1 5 6 500 700) fun ⟨x20, x21⟩ =>
  Option.bind (m_moon_Spans x1 5 3 470 532) fun ⟨x23, x24⟩ =>
  if (x6 == 0) = true then
    if (x9 == 0) = true then
      if (x12 == 0) = true then
        if (x15 == 0) = true then
          if (x18 == 0) = true then
            if (x21 == 0) = true then
              Option.bind (m_L02_of 3) fun x32 =>
              if ((x5.Num == x32.Num) && (x5.Den == x32.Den)) = true then
                Option.bind (m_L02_of 1) fun x35 =>
                Option.bind (m_L02_of 2) fun x37 =>
                if ((x8.Lo.Num == x35.Num) && ((x8.Lo.Den == x35.Den) && ((x8.Open == true) && ((x8.Hi.Num == x37.Num) && (x8.Hi.Den == x37.Den))))) = true then
                  Option.bind (m_R02_Same x11 ([10, 11] : List Int)) fun x40 =>
                  if x40 = true then
                    if ((x17.Lo == 476) && (x17.Hi == 500)) = true then
                      if ((x20.Lo == 400) && (x20.Hi == 500)) = true then
                        Option.bind (m_R02_SameSpans x23 ([(⟨470, 475, 0⟩ : TSpan), (⟨476, 529, 2⟩ : TSpan), (⟨530, 532, 1⟩ : TSpan)] : List TSpan)) fun x45 =>
                        if (x24 == 0) = true then
                          if (x14 == 2) = true then
                            some x45
                          else
                            some false
                        else
                          some false
                      else
                        if (x24 == 0) = true then
                          if (x14 == 2) = true then
                            some false
                          else
                            some false
                        else
                          some false
                    else
                      if (x24 == 0) = true then
                        if (x14 == 2) = true then
                          some false
                        else
                          some false
                      else
                        some false
                  else
                    if ((x17.Lo == 476) && (x17.Hi == 500)) = true then
                      if ((x20.Lo == 400) && (x20.Hi == 500)) = true then
                        Option.bind (m_R02_SameSpans x23 ([(⟨470, 475, 0⟩ : TSpan), (⟨476, 529, 2⟩ : TSpan), (⟨530, 532, 1⟩ : TSpan)] : List TSpan)) fun x55 =>
                        if (x24 == 0) = true then
                          some false
                        else
                          some false
                      else
                        if (x24 == 0) = true then
                          some false
                        else
                          some false
                    else
                      if (x24 == 0) = true then
                        some false
                      else
                        some false
                else
                  if ((x17.Lo == 476) && (x17.Hi == 500)) = true then
                    if ((x20.Lo == 400) && (x20.Hi == 500)) = true then
                      Option.bind (m_R02_SameSpans x23 ([(⟨470, 475, 0⟩ : TSpan), (⟨476, 529, 2⟩ : TSpan), (⟨530, 532, 1⟩ : TSpan)] : List TSpan)) fun x62 =>
                      if (x24 == 0) = true then
                        some false
                      else
                        some false
                    else
                      if (x24 == 0) = true then
                        some false
                      else
                        some false
                  else
                    if (x24 == 0) = true then
                      some false
                    else
                      some false
              else
                if ((x17.Lo == 476) && (x17.Hi == 500)) = true then
                  if ((x20.Lo == 400) && (x20.Hi == 500)) = true then
                    Option.bind (m_R02_SameSpans x23 ([(⟨470, 475, 0⟩ : TSpan), (⟨476, 529, 2⟩ : TSpan), (⟨530, 532, 1⟩ : TSpan)] : List TSpan)) fun x69 =>
                    if (x24 == 0) = true then
                      some false
                    else
                      some false
                  else
                    if (x24 == 0) = true then
                      some false
                    else
                      some false
                else
                  if (x24 == 0) = true then
                    some false
                  else
                    some false
            else
              Option.bind (m_L02_of 3) fun x74 =>
              if ((x5.Num == x74.Num) && (x5.Den == x74.Den)) = true then
                Option.bind (m_L02_of 1) fun x77 =>
                Option.bind (m_L02_of 2) fun x79 =>
                if ((x8.Lo.Num == x77.Num) && ((x8.Lo.Den == x77.Den) && ((x8.Open == true) && ((x8.Hi.Num == x79.Num) && (x8.Hi.Den == x79.Den))))) = true then
                  Option.bind (m_R02_Same x11 ([10, 11] : List Int)) fun x82 =>
                  if x82 = true then
                    if ((x17.Lo == 476) && (x17.Hi == 500)) = true then
                      if ((x20.Lo == 400) && (x20.Hi == 500)) = true then
                        Option.bind (m_R02_SameSpans x23 ([(⟨470, 475, 0⟩ : TSpan), (⟨476, 529, 2⟩ : TSpan), (⟨530, 532, 1⟩ : TSpan)] : List TSpan)) fun x87 =>
                        some false
                      else
                        some false
                    else
                      some false
                  else
                    if ((x17.Lo == 476) && (x17.Hi == 500)) = true then
                      if ((x20.Lo == 400) && (x20.Hi == 500)) = true then
                        Option.bind (m_R02_SameSpans x23 ([(⟨470, 475, 0⟩ : TSpan), (⟨476, 529, 2⟩ : TSpan), (⟨530, 532, 1⟩ : TSpan)] : List TSpan)) fun x91 =>
                        some false
                      else
                        some false
                    else
                      some false
                else
                  if ((x17.Lo == 476) && (x17.Hi == 500)) = true then
                    if ((x20.Lo == 400) && (x20.Hi == 500)) = true then
                      Option.bind (m_R02_SameSpans x23 ([(⟨470, 475, 0⟩ : TSpan), (⟨476, 529, 2⟩ : TSpan), (⟨530, 532, 1⟩ : TSpan)] : List TSpan)) fun x95 =>
                      some false
                    else
                      some false
                  else
                    some false
              else
                if ((x17.Lo == 476) && (x17.Hi == 500)) = true then
                  if ((x20.Lo == 400) && (x20.Hi == 500)) = true then
                    Option.bind (m_R02_SameSpans x23 ([(⟨470, 475, 0⟩ : TSpan), (⟨476, 529, 2⟩ : TSpan), (⟨530, 532, 1⟩ : TSpan)] : List TSpan)) fun x99 =>
                    some false
                  else
                    some false
                else
                  some false
          else
            Option.bind (m_L02_of 3) fun x101 =>
            if ((x5.Num == x101.Num) && (x5.Den == x101.Den)) = true then
              Option.bind (m_L02_of 1) fun x104 =>
              Option.bind (m_L02_of 2) fun x106 =>
              if ((x8.Lo.Num == x104.Num) && ((x8.Lo.Den == x104.Den) && ((x8.Open == true) && ((x8.Hi.Num == x106.Num) && (x8.Hi.Den == x106.Den))))) = true then
                Option.bind (m_R02_Same x11 ([10, 11] : List Int)) fun x109 =>
                if x109 = true then
                  if ((x17.Lo == 476) && (x17.Hi == 500)) = true then
                    if ((x20.Lo == 400) && (x20.Hi == 500)) = true then
                      Option.bind (m_R02_SameSpans x23 ([(⟨470, 475, 0⟩ : TSpan), (⟨476, 529, 2⟩ : TSpan), (⟨530, 532, 1⟩ : TSpan)] : List TSpan)) fun x114 =>
                      some false
                    else
                      some false
                  else
                    some false
                else
                  if ((x17.Lo == 476) && (x17.Hi == 500)) = true then
                    if ((x20.Lo == 400) && (x20.Hi == 500)) = true then
                      Option.bind (m_R02_SameSpans x23 ([(⟨470, 475, 0⟩ : TSpan), (⟨476, 529, 2⟩ : TSpan), (⟨530, 532, 1⟩ : TSpan)] : List TSpan)) fun x118 =>
                      some false
                    else
                      some false
                  else
                    some false
              else
                if ((x17.Lo == 476) && (x17.Hi == 500)) = true then
                  if ((x20.Lo == 400) && (x20.Hi == 500)) = true then
                    Option.bind (m_R02_SameSpans x23 ([(⟨470, 475, 0⟩ : TSpan), (⟨476, 529, 2⟩ : TSpan), (⟨530, 532, 1⟩ : TSpan)] : List TSpan)) fun x122 =>
                    some false
                  else
                    some false
                else
                  some false
            else
              if ((x17.Lo == 476) && (x17.Hi == 500)) = true then
                if ((x20.Lo == 400) && (x20.Hi == 500)) = true then
                  Option.bind (m_R02_SameSpans x23 ([(⟨470, 475, 0⟩ : TSpan), (⟨476, 529, 2⟩ : TSpan), (⟨530, 532, 1⟩ : TSpan)] : List TSpan)) fun x126 =>
                  some false
                else
                  some false
              else
                some false
        else
          Option.bind (m_L02_of 3) fun x128 =>
          if ((x5.Num == x128.Num) && (x5.Den == x128.Den)) = true then
            Option.bind (m_L02_of 1) fun x131 =>
            Option.bind (m_L02_of 2) fun x133 =>
            if ((x8.Lo.Num == x131.Num) && ((x8.Lo.Den == x131.Den) && ((x8.Open == true) && ((x8.Hi.Num == x133.Num) && (x8.Hi.Den == x133.Den))))) = true then
              Option.bind (m_R02_Same x11 ([10, 11] : List Int)) fun x136 =>
              if x136 = true then
                if ((x17.Lo == 476) && (x17.Hi == 500)) = true then
                  if ((x20.Lo == 400) && (x20.Hi == 500)) = true then
                    Option.bind (m_R02_SameSpans x23 ([(⟨470, 475, 0⟩ : TSpan), (⟨476, 529, 2⟩ : TSpan), (⟨530, 532, 1⟩ : TSpan)] : List TSpan)) fun x141 =>
                    some false
                  else
                    some false
                else
                  some false
              else
                if ((x17.Lo == 476) && (x17.Hi == 500)) = true then
                  if ((x20.Lo == 400) && (x20.Hi == 500)) = true then
                    Option.bind (m_R02_SameSpans x23 ([(⟨470, 475, 0⟩ : TSpan), (⟨476, 529, 2⟩ : TSpan), (⟨530, 532, 1⟩ : TSpan)] : List TSpan)) fun x145 =>
                    some false
                  else
                    some false
                else
                  some false
            else
              if ((x17.Lo == 476) && (x17.Hi == 500)) = true then
                if ((x20.Lo == 400) && (x20.Hi == 500)) = true then
                  Option.bind (m_R02_SameSpans x23 ([(⟨470, 475, 0⟩ : TSpan), (⟨476, 529, 2⟩ : TSpan), (⟨530, 532, 1⟩ : TSpan)] : List TSpan)) fun x149 =>
                  some false
                else
                  some false
              else
                some false
          else
            if ((x17.Lo == 476) && (x17.Hi == 500)) = true then
              if ((x20.Lo == 400) && (x20.Hi == 500)) = true then
                Option.bind (m_R02_SameSpans x23 ([(⟨470, 475, 0⟩ : TSpan), (⟨476, 529, 2⟩ : TSpan), (⟨530, 532, 1⟩ : TSpan)] : List TSpan)) fun x153 =>
                some false
              else
                some false
            else
              some false
      else
        Option.bind (m_L02_of 3) fun x155 =>
        if ((x5.Num == x155.Num) && (x5.Den == x155.Den)) = true then
          Option.bind (m_L02_of 1) fun x158 =>
          Option.bind (m_L02_of 2) fun x160 =>
          if ((x8.Lo.Num == x158.Num) && ((x8.Lo.Den == x158.Den) && ((x8.Open == true) && ((x8.Hi.Num == x160.Num) && (x8.Hi.Den == x160.Den))))) = true then
            Option.bind (m_R02_Same x11 ([10, 11] : List Int)) fun x163 =>
            if x163 = true then
              if ((x17.Lo == 476) && (x17.Hi == 500)) = true then
                if ((x20.Lo == 400) && (x20.Hi == 500)) = true then
                  Option.bind (m_R02_SameSpans x23 ([(⟨470, 475, 0⟩ : TSpan), (⟨476, 529, 2⟩ : TSpan), (⟨530, 532, 1⟩ : TSpan)] : List TSpan)) fun x168 =>
                  some false
                else
                  some false
              else
                some false
            else
              if ((x17.Lo == 476) && (x17.Hi == 500)) = true then
                if ((x20.Lo == 400) && (x20.Hi == 500)) = true then
                  Option.bind (m_R02_SameSpans x23 ([(⟨470, 475, 0⟩ : TSpan), (⟨476, 529, 2⟩ : TSpan), (⟨530, 532, 1⟩ : TSpan)] : List TSpan)) fun x172 =>
                  some false
                else
                  some false
              else
                some false
          else
            if ((x17.Lo == 476) && (x17.Hi == 500)) = true then
              if ((x20.Lo == 400) && (x20.Hi == 500)) = true then
                Option.bind (m_R02_SameSpans x23 ([(⟨470, 475, 0⟩ : TSpan), (⟨476, 529, 2⟩ : TSpan), (⟨530, 532, 1⟩ : TSpan)] : List TSpan)) fun x176 =>
                some false
              else
                some false
            else
              some false
        else
          if ((x17.Lo == 476) && (x17.Hi == 500)) = true then
            if ((x20.Lo == 400) && (x20.Hi == 500)) = true then
              Option.bind (m_R02_SameSpans x23 ([(⟨470, 475, 0⟩ : TSpan), (⟨476, 529, 2⟩ : TSpan), (⟨530, 532, 1⟩ : TSpan)] : List TSpan)) fun x180 =>
              some false
            else
              some false
          else
            some false
    else
      Option.bind (m_L02_of 3) fun x182 =>
      if ((x5.Num == x182.Num) && (x5.Den == x182.Den)) = true then
        Option.bind (m_L02_of 1) fun x185 =>
        Option.bind (m_L02_of 2) fun x187 =>
        if ((x8.Lo.Num == x185.Num) && ((x8.Lo.Den == x185.Den) && ((x8.Open == true) && ((x8.Hi.Num == x187.Num) && (x8.Hi.Den == x187.Den))))) = true then
          Option.bind (m_R02_Same x11 ([10, 11] : List Int)) fun x190 =>
          if x190 = true then
            if ((x17.Lo == 476) && (x17.Hi == 500)) = true then
              if ((x20.Lo == 400) && (x20.Hi == 500)) = true then
                Option.bind (m_R02_SameSpans x23 ([(⟨470, 475, 0⟩ : TSpan), (⟨476, 529, 2⟩ : TSpan), (⟨530, 532, 1⟩ : TSpan)] : List TSpan)) fun x195 =>
                some false
              else
                some false
            else
              some false
          else
            if ((x17.Lo == 476) && (x17.Hi == 500)) = true then
              if ((x20.Lo == 400) && (x20.Hi == 500)) = true then
                Option.bind (m_R02_SameSpans x23 ([(⟨470, 475, 0⟩ : TSpan), (⟨476, 529, 2⟩ : TSpan), (⟨530, 532, 1⟩ : TSpan)] : List TSpan)) fun x199 =>
                some false
              else
                some false
            else
              some false
        else
          if ((x17.Lo == 476) && (x17.Hi == 500)) = true then
            if ((x20.Lo == 400) && (x20.Hi == 500)) = true then
              Option.bind (m_R02_SameSpans x23 ([(⟨470, 475, 0⟩ : TSpan), (⟨476, 529, 2⟩ : TSpan), (⟨530, 532, 1⟩ : TSpan)] : List TSpan)) fun x203 =>
              some false
            else
              some false
          else
            some false
      else
        if ((x17.Lo == 476) && (x17.Hi == 500)) = true then
          if ((x20.Lo == 400) && (x20.Hi == 500)) = true then
            Option.bind (m_R02_SameSpans x23 ([(⟨470, 475, 0⟩ : TSpan), (⟨476, 529, 2⟩ : TSpan), (⟨530, 532, 1⟩ : TSpan)] : List TSpan)) fun x207 =>
            some false
          else
            some false
        else
          some false
  else
    Option.bind (m_L02_of 3) fun x209 =>
    if ((x5.Num == x209.Num) && (x5.Den == x209.Den)) = true then
      Option.bind (m_L02_of 1) fun x212 =>
      Option.bind (m_L02_of 2) fun x214 =>
      if ((x8.Lo.Num == x212.Num) && ((x8.Lo.Den == x212.Den) && ((x8.Open == true) && ((x8.Hi.Num == x214.Num) && (x8.Hi.Den == x214.Den))))) = true then
        Option.bind (m_R02_Same x11 ([10, 11] : List Int)) fun x217 =>
        if x217 = true then
          if ((x17.Lo == 476) && (x17.Hi == 500)) = true then
            if ((x20.Lo == 400) && (x20.Hi == 500)) = true then
              Option.bind (m_R02_SameSpans x23 ([(⟨470, 475, 0⟩ : TSpan), (⟨476, 529, 2⟩ : TSpan), (⟨530, 532, 1⟩ : TSpan)] : List TSpan)) fun x222 =>
              some false
            else
              some false
          else
            some false
        else
          if ((x17.Lo == 476) && (x17.Hi == 500)) = true then
            if ((x20.Lo == 400) && (x20.Hi == 500)) = true then
              Option.bind (m_R02_SameSpans x23 ([(⟨470, 475, 0⟩ : TSpan), (⟨476, 529, 2⟩ : TSpan), (⟨530, 532, 1⟩ : TSpan)] : List TSpan)) fun x226 =>
              some false
            else
              some false
          else
            some false
      else
        if ((x17.Lo == 476) && (x17.Hi == 500)) = true then
          if ((x20.Lo == 400) && (x20.Hi == 500)) = true then
            Option.bind (m_R02_SameSpans x23 ([(⟨470, 475, 0⟩ : TSpan), (⟨476, 529, 2⟩ : TSpan), (⟨530, 532, 1⟩ : TSpan)] : List TSpan)) fun x230 =>
            some false
          else
            some false
        else
          some false
    else
      if ((x17.Lo == 476) && (x17.Hi == 500)) = true then
        if ((x20.Lo == 400) && (x20.Hi == 500)) = true then
          Option.bind (m_R02_SameSpans x23 ([(⟨470, 475, 0⟩ : TSpan), (⟨476, 529, 2⟩ : TSpan), (⟨530, 532, 1⟩ : TSpan)] : List TSpan)) fun x234 =>
          some false
        else
          some false
      else
        some false
set_option maxRecDepth 100000 in
set_option maxHeartbeats 2000000 in
theorem d_L02_sane (r : Bool) (hm : m_L02_sane  = some r) : Does Try.prog 19 [] (fun x => x = DB r) := by
  refine does_y (X := ⟨Try.prog, tt, Try.f19.ntmps, pl19, [], [], []⟩) pok _ Try.func19 rfl rfl (Nat.le_of_ble_eq_true rfl) ?_
  obtain ⟨x1, hx2, hm⟩ := bd_some hm
  refine CallY.det (d_L02_example  _ hx2) ?_
  refine ⟨rfl, ?_⟩
  obtain ⟨e3, hx4, hm⟩ := bd_some hm
  refine ⟨_, el_idx (fun _ => rfl) hx4, ?_⟩
  obtain ⟨⟨x5, x6⟩, hx7, hm⟩ := bd_some hm
  refine CallY.det (d_moon_Margin e3 x1.Roofs 530 _ hx7) ?_
  obtain ⟨⟨x8, x9⟩, hx10, hm⟩ := bd_some hm
  refine CallY.det (d_moon_Slip x1 5 6 _ hx10) ?_
  obtain ⟨⟨x11, x12⟩, hx13, hm⟩ := bd_some hm
  refine CallY.det (d_moon_Conflict x1 5 7 _ hx13) ?_
  obtain ⟨⟨x14, x15⟩, hx16, hm⟩ := bd_some hm
  refine CallY.det (d_moon_Above x1 5 3 476 _ hx16) ?_
  obtain ⟨⟨x17, x18⟩, hx19, hm⟩ := bd_some hm
  refine CallY.det (d_moon_Rises x1 5 6 400 700 _ hx19) ?_
  obtain ⟨⟨x20, x21⟩, hx22, hm⟩ := bd_some hm
  refine CallY.det (d_moon_Whole x1 5 6 500 700 _ hx22) ?_
  obtain ⟨⟨x23, x24⟩, hx25, hm⟩ := bd_some hm
  refine CallY.det (d_moon_Spans x1 5 3 470 532 _ hx25) ?_
  refine VIf.mk (fun (h26 : (x6 == 0) = true) => ?_) (fun (h26 : (x6 == 0) = false) => ?_)
  · replace hm := if_t h26 hm
    refine VIf.mk (fun (h27 : (x9 == 0) = true) => ?_) (fun (h27 : (x9 == 0) = false) => ?_)
    · replace hm := if_t h27 hm
      refine VIf.mk (fun (h28 : (x12 == 0) = true) => ?_) (fun (h28 : (x12 == 0) = false) => ?_)
      · replace hm := if_t h28 hm
        refine VIf.mk (fun (h29 : (x15 == 0) = true) => ?_) (fun (h29 : (x15 == 0) = false) => ?_)
        · replace hm := if_t h29 hm
          refine VIf.mk (fun (h30 : (x18 == 0) = true) => ?_) (fun (h30 : (x18 == 0) = false) => ?_)
          · replace hm := if_t h30 hm
            refine VIf.mk (fun (h31 : (x21 == 0) = true) => ?_) (fun (h31 : (x21 == 0) = false) => ?_)
            · replace hm := if_t h31 hm
              refine ⟨rfl, ?_⟩
              obtain ⟨x32, hx33, hm⟩ := bd_some hm
              refine CallY.det (d_L02_of 3 _ hx33) ?_
              refine VIf.mk (fun (h34 : ((x5.Num == x32.Num) && (x5.Den == x32.Den)) = true) => ?_) (fun (h34 : ((x5.Num == x32.Num) && (x5.Den == x32.Den)) = false) => ?_)
              · replace hm := if_t h34 hm
                obtain ⟨x35, hx36, hm⟩ := bd_some hm
                refine CallY.det (d_L02_of 1 _ hx36) ?_
                obtain ⟨x37, hx38, hm⟩ := bd_some hm
                refine CallY.det (d_L02_of 2 _ hx38) ?_
                refine VIf.mk (fun (h39 : ((x8.Lo.Num == x35.Num) && ((x8.Lo.Den == x35.Den) && ((x8.Open == true) && ((x8.Hi.Num == x37.Num) && (x8.Hi.Den == x37.Den))))) = true) => ?_) (fun (h39 : ((x8.Lo.Num == x35.Num) && ((x8.Lo.Den == x35.Den) && ((x8.Open == true) && ((x8.Hi.Num == x37.Num) && (x8.Hi.Den == x37.Den))))) = false) => ?_)
                · replace hm := if_t h39 hm
                  refine ⟨([10, 11] : List Int).flatMap cI, ([10, 11] : List Int).length, ⟨rfl, rfl⟩, ?_⟩
                  obtain ⟨x40, hx41, hm⟩ := bd_some hm
                  refine CallOwn.det (d_R02_Same x11 (([10, 11] : List Int)) _ hx41) ?_
                  refine VIf.mk (fun (h42 : x40 = true) => ?_) (fun (h42 : x40 = false) => ?_)
                  · replace hm := if_t h42 hm
                    refine VIf.mk (fun (h43 : ((x17.Lo == 476) && (x17.Hi == 500)) = true) => ?_) (fun (h43 : ((x17.Lo == 476) && (x17.Hi == 500)) = false) => ?_)
                    · replace hm := if_t h43 hm
                      refine VIf.mk (fun (h44 : ((x20.Lo == 400) && (x20.Hi == 500)) = true) => ?_) (fun (h44 : ((x20.Lo == 400) && (x20.Hi == 500)) = false) => ?_)
                      · replace hm := if_t h44 hm
                        refine ⟨([(⟨470, 475, 0⟩ : TSpan), (⟨476, 529, 2⟩ : TSpan), (⟨530, 532, 1⟩ : TSpan)] : List TSpan).flatMap TSpan.c, ([(⟨470, 475, 0⟩ : TSpan), (⟨476, 529, 2⟩ : TSpan), (⟨530, 532, 1⟩ : TSpan)] : List TSpan).length, ⟨rfl, rfl⟩, ?_⟩
                        obtain ⟨x45, hx46, hm⟩ := bd_some hm
                        refine CallOwn.det (d_R02_SameSpans x23 (([(⟨470, 475, 0⟩ : TSpan), (⟨476, 529, 2⟩ : TSpan), (⟨530, 532, 1⟩ : TSpan)] : List TSpan)) _ hx46) ?_
                        refine VIf.mk (fun (h47 : (x24 == 0) = true) => ?_) (fun (h47 : (x24 == 0) = false) => ?_)
                        · replace hm := if_t h47 hm
                          refine VIf.mk (fun (h48 : (x14 == 2) = true) => ?_) (fun (h48 : (x14 == 2) = false) => ?_)
                          · replace hm := if_t h48 hm
                            cases hm
                            exact RetY.le (leD.refl _)
                          · replace hm := if_f h48 hm
                            cases hm
                            exact RetY.le (leD.refl _)
                        · replace hm := if_f h47 hm
                          cases hm
                          exact RetY.le (leD.refl _)
                      · replace hm := if_f h44 hm
                        refine VIf.mk (fun (h49 : (x24 == 0) = true) => ?_) (fun (h49 : (x24 == 0) = false) => ?_)
                        · replace hm := if_t h49 hm
                          refine VIf.mk (fun (h50 : (x14 == 2) = true) => ?_) (fun (h50 : (x14 == 2) = false) => ?_)
                          · replace hm := if_t h50 hm
                            cases hm
                            exact RetY.le (leD.refl _)
                          · replace hm := if_f h50 hm
                            cases hm
                            exact RetY.le (leD.refl _)
                        · replace hm := if_f h49 hm
                          cases hm
                          exact RetY.le (leD.refl _)
                    · replace hm := if_f h43 hm
                      refine VIf.mk (fun (h51 : (x24 == 0) = true) => ?_) (fun (h51 : (x24 == 0) = false) => ?_)
                      · replace hm := if_t h51 hm
                        refine VIf.mk (fun (h52 : (x14 == 2) = true) => ?_) (fun (h52 : (x14 == 2) = false) => ?_)
                        · replace hm := if_t h52 hm
                          cases hm
                          exact RetY.le (leD.refl _)
                        · replace hm := if_f h52 hm
                          cases hm
                          exact RetY.le (leD.refl _)
                      · replace hm := if_f h51 hm
                        cases hm
                        exact RetY.le (leD.refl _)
                  · replace hm := if_f h42 hm
                    refine VIf.mk (fun (h53 : ((x17.Lo == 476) && (x17.Hi == 500)) = true) => ?_) (fun (h53 : ((x17.Lo == 476) && (x17.Hi == 500)) = false) => ?_)
                    · replace hm := if_t h53 hm
                      refine VIf.mk (fun (h54 : ((x20.Lo == 400) && (x20.Hi == 500)) = true) => ?_) (fun (h54 : ((x20.Lo == 400) && (x20.Hi == 500)) = false) => ?_)
                      · replace hm := if_t h54 hm
                        refine ⟨([(⟨470, 475, 0⟩ : TSpan), (⟨476, 529, 2⟩ : TSpan), (⟨530, 532, 1⟩ : TSpan)] : List TSpan).flatMap TSpan.c, ([(⟨470, 475, 0⟩ : TSpan), (⟨476, 529, 2⟩ : TSpan), (⟨530, 532, 1⟩ : TSpan)] : List TSpan).length, ⟨rfl, rfl⟩, ?_⟩
                        obtain ⟨x55, hx56, hm⟩ := bd_some hm
                        refine CallOwn.det (d_R02_SameSpans x23 (([(⟨470, 475, 0⟩ : TSpan), (⟨476, 529, 2⟩ : TSpan), (⟨530, 532, 1⟩ : TSpan)] : List TSpan)) _ hx56) ?_
                        refine VIf.mk (fun (h57 : (x24 == 0) = true) => ?_) (fun (h57 : (x24 == 0) = false) => ?_)
                        · replace hm := if_t h57 hm
                          cases hm
                          exact RetY.le (leD.refl _)
                        · replace hm := if_f h57 hm
                          cases hm
                          exact RetY.le (leD.refl _)
                      · replace hm := if_f h54 hm
                        refine VIf.mk (fun (h58 : (x24 == 0) = true) => ?_) (fun (h58 : (x24 == 0) = false) => ?_)
                        · replace hm := if_t h58 hm
                          cases hm
                          exact RetY.le (leD.refl _)
                        · replace hm := if_f h58 hm
                          cases hm
                          exact RetY.le (leD.refl _)
                    · replace hm := if_f h53 hm
                      refine VIf.mk (fun (h59 : (x24 == 0) = true) => ?_) (fun (h59 : (x24 == 0) = false) => ?_)
                      · replace hm := if_t h59 hm
                        cases hm
                        exact RetY.le (leD.refl _)
                      · replace hm := if_f h59 hm
                        cases hm
                        exact RetY.le (leD.refl _)
                · replace hm := if_f h39 hm
                  refine VIf.mk (fun (h60 : ((x17.Lo == 476) && (x17.Hi == 500)) = true) => ?_) (fun (h60 : ((x17.Lo == 476) && (x17.Hi == 500)) = false) => ?_)
                  · replace hm := if_t h60 hm
                    refine VIf.mk (fun (h61 : ((x20.Lo == 400) && (x20.Hi == 500)) = true) => ?_) (fun (h61 : ((x20.Lo == 400) && (x20.Hi == 500)) = false) => ?_)
                    · replace hm := if_t h61 hm
                      refine ⟨([(⟨470, 475, 0⟩ : TSpan), (⟨476, 529, 2⟩ : TSpan), (⟨530, 532, 1⟩ : TSpan)] : List TSpan).flatMap TSpan.c, ([(⟨470, 475, 0⟩ : TSpan), (⟨476, 529, 2⟩ : TSpan), (⟨530, 532, 1⟩ : TSpan)] : List TSpan).length, ⟨rfl, rfl⟩, ?_⟩
                      obtain ⟨x62, hx63, hm⟩ := bd_some hm
                      refine CallOwn.det (d_R02_SameSpans x23 (([(⟨470, 475, 0⟩ : TSpan), (⟨476, 529, 2⟩ : TSpan), (⟨530, 532, 1⟩ : TSpan)] : List TSpan)) _ hx63) ?_
                      refine VIf.mk (fun (h64 : (x24 == 0) = true) => ?_) (fun (h64 : (x24 == 0) = false) => ?_)
                      · replace hm := if_t h64 hm
                        cases hm
                        exact RetY.le (leD.refl _)
                      · replace hm := if_f h64 hm
                        cases hm
                        exact RetY.le (leD.refl _)
                    · replace hm := if_f h61 hm
                      refine VIf.mk (fun (h65 : (x24 == 0) = true) => ?_) (fun (h65 : (x24 == 0) = false) => ?_)
                      · replace hm := if_t h65 hm
                        cases hm
                        exact RetY.le (leD.refl _)
                      · replace hm := if_f h65 hm
                        cases hm
                        exact RetY.le (leD.refl _)
                  · replace hm := if_f h60 hm
                    refine VIf.mk (fun (h66 : (x24 == 0) = true) => ?_) (fun (h66 : (x24 == 0) = false) => ?_)
                    · replace hm := if_t h66 hm
                      cases hm
                      exact RetY.le (leD.refl _)
                    · replace hm := if_f h66 hm
                      cases hm
                      exact RetY.le (leD.refl _)
              · replace hm := if_f h34 hm
                refine VIf.mk (fun (h67 : ((x17.Lo == 476) && (x17.Hi == 500)) = true) => ?_) (fun (h67 : ((x17.Lo == 476) && (x17.Hi == 500)) = false) => ?_)
                · replace hm := if_t h67 hm
                  refine VIf.mk (fun (h68 : ((x20.Lo == 400) && (x20.Hi == 500)) = true) => ?_) (fun (h68 : ((x20.Lo == 400) && (x20.Hi == 500)) = false) => ?_)
                  · replace hm := if_t h68 hm
                    refine ⟨([(⟨470, 475, 0⟩ : TSpan), (⟨476, 529, 2⟩ : TSpan), (⟨530, 532, 1⟩ : TSpan)] : List TSpan).flatMap TSpan.c, ([(⟨470, 475, 0⟩ : TSpan), (⟨476, 529, 2⟩ : TSpan), (⟨530, 532, 1⟩ : TSpan)] : List TSpan).length, ⟨rfl, rfl⟩, ?_⟩
                    obtain ⟨x69, hx70, hm⟩ := bd_some hm
                    refine CallOwn.det (d_R02_SameSpans x23 (([(⟨470, 475, 0⟩ : TSpan), (⟨476, 529, 2⟩ : TSpan), (⟨530, 532, 1⟩ : TSpan)] : List TSpan)) _ hx70) ?_
                    refine VIf.mk (fun (h71 : (x24 == 0) = true) => ?_) (fun (h71 : (x24 == 0) = false) => ?_)
                    · replace hm := if_t h71 hm
                      cases hm
                      exact RetY.le (leD.refl _)
                    · replace hm := if_f h71 hm
                      cases hm
                      exact RetY.le (leD.refl _)
                  · replace hm := if_f h68 hm
                    refine VIf.mk (fun (h72 : (x24 == 0) = true) => ?_) (fun (h72 : (x24 == 0) = false) => ?_)
                    · replace hm := if_t h72 hm
                      cases hm
                      exact RetY.le (leD.refl _)
                    · replace hm := if_f h72 hm
                      cases hm
                      exact RetY.le (leD.refl _)
                · replace hm := if_f h67 hm
                  refine VIf.mk (fun (h73 : (x24 == 0) = true) => ?_) (fun (h73 : (x24 == 0) = false) => ?_)
                  · replace hm := if_t h73 hm
                    cases hm
                    exact RetY.le (leD.refl _)
                  · replace hm := if_f h73 hm
                    cases hm
                    exact RetY.le (leD.refl _)
            · replace hm := if_f h31 hm
              refine ⟨rfl, ?_⟩
              obtain ⟨x74, hx75, hm⟩ := bd_some hm
              refine CallY.det (d_L02_of 3 _ hx75) ?_
              refine VIf.mk (fun (h76 : ((x5.Num == x74.Num) && (x5.Den == x74.Den)) = true) => ?_) (fun (h76 : ((x5.Num == x74.Num) && (x5.Den == x74.Den)) = false) => ?_)
              · replace hm := if_t h76 hm
                obtain ⟨x77, hx78, hm⟩ := bd_some hm
                refine CallY.det (d_L02_of 1 _ hx78) ?_
                obtain ⟨x79, hx80, hm⟩ := bd_some hm
                refine CallY.det (d_L02_of 2 _ hx80) ?_
                refine VIf.mk (fun (h81 : ((x8.Lo.Num == x77.Num) && ((x8.Lo.Den == x77.Den) && ((x8.Open == true) && ((x8.Hi.Num == x79.Num) && (x8.Hi.Den == x79.Den))))) = true) => ?_) (fun (h81 : ((x8.Lo.Num == x77.Num) && ((x8.Lo.Den == x77.Den) && ((x8.Open == true) && ((x8.Hi.Num == x79.Num) && (x8.Hi.Den == x79.Den))))) = false) => ?_)
                · replace hm := if_t h81 hm
                  refine ⟨([10, 11] : List Int).flatMap cI, ([10, 11] : List Int).length, ⟨rfl, rfl⟩, ?_⟩
                  obtain ⟨x82, hx83, hm⟩ := bd_some hm
                  refine CallOwn.det (d_R02_Same x11 (([10, 11] : List Int)) _ hx83) ?_
                  refine VIf.mk (fun (h84 : x82 = true) => ?_) (fun (h84 : x82 = false) => ?_)
                  · replace hm := if_t h84 hm
                    refine VIf.mk (fun (h85 : ((x17.Lo == 476) && (x17.Hi == 500)) = true) => ?_) (fun (h85 : ((x17.Lo == 476) && (x17.Hi == 500)) = false) => ?_)
                    · replace hm := if_t h85 hm
                      refine VIf.mk (fun (h86 : ((x20.Lo == 400) && (x20.Hi == 500)) = true) => ?_) (fun (h86 : ((x20.Lo == 400) && (x20.Hi == 500)) = false) => ?_)
                      · replace hm := if_t h86 hm
                        refine ⟨([(⟨470, 475, 0⟩ : TSpan), (⟨476, 529, 2⟩ : TSpan), (⟨530, 532, 1⟩ : TSpan)] : List TSpan).flatMap TSpan.c, ([(⟨470, 475, 0⟩ : TSpan), (⟨476, 529, 2⟩ : TSpan), (⟨530, 532, 1⟩ : TSpan)] : List TSpan).length, ⟨rfl, rfl⟩, ?_⟩
                        obtain ⟨x87, hx88, hm⟩ := bd_some hm
                        refine CallOwn.det (d_R02_SameSpans x23 (([(⟨470, 475, 0⟩ : TSpan), (⟨476, 529, 2⟩ : TSpan), (⟨530, 532, 1⟩ : TSpan)] : List TSpan)) _ hx88) ?_
                        cases hm
                        exact RetY.le (leD.refl _)
                      · replace hm := if_f h86 hm
                        cases hm
                        exact RetY.le (leD.refl _)
                    · replace hm := if_f h85 hm
                      cases hm
                      exact RetY.le (leD.refl _)
                  · replace hm := if_f h84 hm
                    refine VIf.mk (fun (h89 : ((x17.Lo == 476) && (x17.Hi == 500)) = true) => ?_) (fun (h89 : ((x17.Lo == 476) && (x17.Hi == 500)) = false) => ?_)
                    · replace hm := if_t h89 hm
                      refine VIf.mk (fun (h90 : ((x20.Lo == 400) && (x20.Hi == 500)) = true) => ?_) (fun (h90 : ((x20.Lo == 400) && (x20.Hi == 500)) = false) => ?_)
                      · replace hm := if_t h90 hm
                        refine ⟨([(⟨470, 475, 0⟩ : TSpan), (⟨476, 529, 2⟩ : TSpan), (⟨530, 532, 1⟩ : TSpan)] : List TSpan).flatMap TSpan.c, ([(⟨470, 475, 0⟩ : TSpan), (⟨476, 529, 2⟩ : TSpan), (⟨530, 532, 1⟩ : TSpan)] : List TSpan).length, ⟨rfl, rfl⟩, ?_⟩
                        obtain ⟨x91, hx92, hm⟩ := bd_some hm
                        refine CallOwn.det (d_R02_SameSpans x23 (([(⟨470, 475, 0⟩ : TSpan), (⟨476, 529, 2⟩ : TSpan), (⟨530, 532, 1⟩ : TSpan)] : List TSpan)) _ hx92) ?_
                        cases hm
                        exact RetY.le (leD.refl _)
                      · replace hm := if_f h90 hm
                        cases hm
                        exact RetY.le (leD.refl _)
                    · replace hm := if_f h89 hm
                      cases hm
                      exact RetY.le (leD.refl _)
                · replace hm := if_f h81 hm
                  refine VIf.mk (fun (h93 : ((x17.Lo == 476) && (x17.Hi == 500)) = true) => ?_) (fun (h93 : ((x17.Lo == 476) && (x17.Hi == 500)) = false) => ?_)
                  · replace hm := if_t h93 hm
                    refine VIf.mk (fun (h94 : ((x20.Lo == 400) && (x20.Hi == 500)) = true) => ?_) (fun (h94 : ((x20.Lo == 400) && (x20.Hi == 500)) = false) => ?_)
                    · replace hm := if_t h94 hm
                      refine ⟨([(⟨470, 475, 0⟩ : TSpan), (⟨476, 529, 2⟩ : TSpan), (⟨530, 532, 1⟩ : TSpan)] : List TSpan).flatMap TSpan.c, ([(⟨470, 475, 0⟩ : TSpan), (⟨476, 529, 2⟩ : TSpan), (⟨530, 532, 1⟩ : TSpan)] : List TSpan).length, ⟨rfl, rfl⟩, ?_⟩
                      obtain ⟨x95, hx96, hm⟩ := bd_some hm
                      refine CallOwn.det (d_R02_SameSpans x23 (([(⟨470, 475, 0⟩ : TSpan), (⟨476, 529, 2⟩ : TSpan), (⟨530, 532, 1⟩ : TSpan)] : List TSpan)) _ hx96) ?_
                      cases hm
                      exact RetY.le (leD.refl _)
                    · replace hm := if_f h94 hm
                      cases hm
                      exact RetY.le (leD.refl _)
                  · replace hm := if_f h93 hm
                    cases hm
                    exact RetY.le (leD.refl _)
              · replace hm := if_f h76 hm
                refine VIf.mk (fun (h97 : ((x17.Lo == 476) && (x17.Hi == 500)) = true) => ?_) (fun (h97 : ((x17.Lo == 476) && (x17.Hi == 500)) = false) => ?_)
                · replace hm := if_t h97 hm
                  refine VIf.mk (fun (h98 : ((x20.Lo == 400) && (x20.Hi == 500)) = true) => ?_) (fun (h98 : ((x20.Lo == 400) && (x20.Hi == 500)) = false) => ?_)
                  · replace hm := if_t h98 hm
                    refine ⟨([(⟨470, 475, 0⟩ : TSpan), (⟨476, 529, 2⟩ : TSpan), (⟨530, 532, 1⟩ : TSpan)] : List TSpan).flatMap TSpan.c, ([(⟨470, 475, 0⟩ : TSpan), (⟨476, 529, 2⟩ : TSpan), (⟨530, 532, 1⟩ : TSpan)] : List TSpan).length, ⟨rfl, rfl⟩, ?_⟩
                    obtain ⟨x99, hx100, hm⟩ := bd_some hm
                    refine CallOwn.det (d_R02_SameSpans x23 (([(⟨470, 475, 0⟩ : TSpan), (⟨476, 529, 2⟩ : TSpan), (⟨530, 532, 1⟩ : TSpan)] : List TSpan)) _ hx100) ?_
                    cases hm
                    exact RetY.le (leD.refl _)
                  · replace hm := if_f h98 hm
                    cases hm
                    exact RetY.le (leD.refl _)
                · replace hm := if_f h97 hm
                  cases hm
                  exact RetY.le (leD.refl _)
          · replace hm := if_f h30 hm
            refine ⟨rfl, ?_⟩
            obtain ⟨x101, hx102, hm⟩ := bd_some hm
            refine CallY.det (d_L02_of 3 _ hx102) ?_
            refine VIf.mk (fun (h103 : ((x5.Num == x101.Num) && (x5.Den == x101.Den)) = true) => ?_) (fun (h103 : ((x5.Num == x101.Num) && (x5.Den == x101.Den)) = false) => ?_)
            · replace hm := if_t h103 hm
              obtain ⟨x104, hx105, hm⟩ := bd_some hm
              refine CallY.det (d_L02_of 1 _ hx105) ?_
              obtain ⟨x106, hx107, hm⟩ := bd_some hm
              refine CallY.det (d_L02_of 2 _ hx107) ?_
              refine VIf.mk (fun (h108 : ((x8.Lo.Num == x104.Num) && ((x8.Lo.Den == x104.Den) && ((x8.Open == true) && ((x8.Hi.Num == x106.Num) && (x8.Hi.Den == x106.Den))))) = true) => ?_) (fun (h108 : ((x8.Lo.Num == x104.Num) && ((x8.Lo.Den == x104.Den) && ((x8.Open == true) && ((x8.Hi.Num == x106.Num) && (x8.Hi.Den == x106.Den))))) = false) => ?_)
              · replace hm := if_t h108 hm
                refine ⟨([10, 11] : List Int).flatMap cI, ([10, 11] : List Int).length, ⟨rfl, rfl⟩, ?_⟩
                obtain ⟨x109, hx110, hm⟩ := bd_some hm
                refine CallOwn.det (d_R02_Same x11 (([10, 11] : List Int)) _ hx110) ?_
                refine VIf.mk (fun (h111 : x109 = true) => ?_) (fun (h111 : x109 = false) => ?_)
                · replace hm := if_t h111 hm
                  refine VIf.mk (fun (h112 : ((x17.Lo == 476) && (x17.Hi == 500)) = true) => ?_) (fun (h112 : ((x17.Lo == 476) && (x17.Hi == 500)) = false) => ?_)
                  · replace hm := if_t h112 hm
                    refine VIf.mk (fun (h113 : ((x20.Lo == 400) && (x20.Hi == 500)) = true) => ?_) (fun (h113 : ((x20.Lo == 400) && (x20.Hi == 500)) = false) => ?_)
                    · replace hm := if_t h113 hm
                      refine ⟨([(⟨470, 475, 0⟩ : TSpan), (⟨476, 529, 2⟩ : TSpan), (⟨530, 532, 1⟩ : TSpan)] : List TSpan).flatMap TSpan.c, ([(⟨470, 475, 0⟩ : TSpan), (⟨476, 529, 2⟩ : TSpan), (⟨530, 532, 1⟩ : TSpan)] : List TSpan).length, ⟨rfl, rfl⟩, ?_⟩
                      obtain ⟨x114, hx115, hm⟩ := bd_some hm
                      refine CallOwn.det (d_R02_SameSpans x23 (([(⟨470, 475, 0⟩ : TSpan), (⟨476, 529, 2⟩ : TSpan), (⟨530, 532, 1⟩ : TSpan)] : List TSpan)) _ hx115) ?_
                      cases hm
                      exact RetY.le (leD.refl _)
                    · replace hm := if_f h113 hm
                      cases hm
                      exact RetY.le (leD.refl _)
                  · replace hm := if_f h112 hm
                    cases hm
                    exact RetY.le (leD.refl _)
                · replace hm := if_f h111 hm
                  refine VIf.mk (fun (h116 : ((x17.Lo == 476) && (x17.Hi == 500)) = true) => ?_) (fun (h116 : ((x17.Lo == 476) && (x17.Hi == 500)) = false) => ?_)
                  · replace hm := if_t h116 hm
                    refine VIf.mk (fun (h117 : ((x20.Lo == 400) && (x20.Hi == 500)) = true) => ?_) (fun (h117 : ((x20.Lo == 400) && (x20.Hi == 500)) = false) => ?_)
                    · replace hm := if_t h117 hm
                      refine ⟨([(⟨470, 475, 0⟩ : TSpan), (⟨476, 529, 2⟩ : TSpan), (⟨530, 532, 1⟩ : TSpan)] : List TSpan).flatMap TSpan.c, ([(⟨470, 475, 0⟩ : TSpan), (⟨476, 529, 2⟩ : TSpan), (⟨530, 532, 1⟩ : TSpan)] : List TSpan).length, ⟨rfl, rfl⟩, ?_⟩
                      obtain ⟨x118, hx119, hm⟩ := bd_some hm
                      refine CallOwn.det (d_R02_SameSpans x23 (([(⟨470, 475, 0⟩ : TSpan), (⟨476, 529, 2⟩ : TSpan), (⟨530, 532, 1⟩ : TSpan)] : List TSpan)) _ hx119) ?_
                      cases hm
                      exact RetY.le (leD.refl _)
                    · replace hm := if_f h117 hm
                      cases hm
                      exact RetY.le (leD.refl _)
                  · replace hm := if_f h116 hm
                    cases hm
                    exact RetY.le (leD.refl _)
              · replace hm := if_f h108 hm
                refine VIf.mk (fun (h120 : ((x17.Lo == 476) && (x17.Hi == 500)) = true) => ?_) (fun (h120 : ((x17.Lo == 476) && (x17.Hi == 500)) = false) => ?_)
                · replace hm := if_t h120 hm
                  refine VIf.mk (fun (h121 : ((x20.Lo == 400) && (x20.Hi == 500)) = true) => ?_) (fun (h121 : ((x20.Lo == 400) && (x20.Hi == 500)) = false) => ?_)
                  · replace hm := if_t h121 hm
                    refine ⟨([(⟨470, 475, 0⟩ : TSpan), (⟨476, 529, 2⟩ : TSpan), (⟨530, 532, 1⟩ : TSpan)] : List TSpan).flatMap TSpan.c, ([(⟨470, 475, 0⟩ : TSpan), (⟨476, 529, 2⟩ : TSpan), (⟨530, 532, 1⟩ : TSpan)] : List TSpan).length, ⟨rfl, rfl⟩, ?_⟩
                    obtain ⟨x122, hx123, hm⟩ := bd_some hm
                    refine CallOwn.det (d_R02_SameSpans x23 (([(⟨470, 475, 0⟩ : TSpan), (⟨476, 529, 2⟩ : TSpan), (⟨530, 532, 1⟩ : TSpan)] : List TSpan)) _ hx123) ?_
                    cases hm
                    exact RetY.le (leD.refl _)
                  · replace hm := if_f h121 hm
                    cases hm
                    exact RetY.le (leD.refl _)
                · replace hm := if_f h120 hm
                  cases hm
                  exact RetY.le (leD.refl _)
            · replace hm := if_f h103 hm
              refine VIf.mk (fun (h124 : ((x17.Lo == 476) && (x17.Hi == 500)) = true) => ?_) (fun (h124 : ((x17.Lo == 476) && (x17.Hi == 500)) = false) => ?_)
              · replace hm := if_t h124 hm
                refine VIf.mk (fun (h125 : ((x20.Lo == 400) && (x20.Hi == 500)) = true) => ?_) (fun (h125 : ((x20.Lo == 400) && (x20.Hi == 500)) = false) => ?_)
                · replace hm := if_t h125 hm
                  refine ⟨([(⟨470, 475, 0⟩ : TSpan), (⟨476, 529, 2⟩ : TSpan), (⟨530, 532, 1⟩ : TSpan)] : List TSpan).flatMap TSpan.c, ([(⟨470, 475, 0⟩ : TSpan), (⟨476, 529, 2⟩ : TSpan), (⟨530, 532, 1⟩ : TSpan)] : List TSpan).length, ⟨rfl, rfl⟩, ?_⟩
                  obtain ⟨x126, hx127, hm⟩ := bd_some hm
                  refine CallOwn.det (d_R02_SameSpans x23 (([(⟨470, 475, 0⟩ : TSpan), (⟨476, 529, 2⟩ : TSpan), (⟨530, 532, 1⟩ : TSpan)] : List TSpan)) _ hx127) ?_
                  cases hm
                  exact RetY.le (leD.refl _)
                · replace hm := if_f h125 hm
                  cases hm
                  exact RetY.le (leD.refl _)
              · replace hm := if_f h124 hm
                cases hm
                exact RetY.le (leD.refl _)
        · replace hm := if_f h29 hm
          refine ⟨rfl, ?_⟩
          obtain ⟨x128, hx129, hm⟩ := bd_some hm
          refine CallY.det (d_L02_of 3 _ hx129) ?_
          refine VIf.mk (fun (h130 : ((x5.Num == x128.Num) && (x5.Den == x128.Den)) = true) => ?_) (fun (h130 : ((x5.Num == x128.Num) && (x5.Den == x128.Den)) = false) => ?_)
          · replace hm := if_t h130 hm
            obtain ⟨x131, hx132, hm⟩ := bd_some hm
            refine CallY.det (d_L02_of 1 _ hx132) ?_
            obtain ⟨x133, hx134, hm⟩ := bd_some hm
            refine CallY.det (d_L02_of 2 _ hx134) ?_
            refine VIf.mk (fun (h135 : ((x8.Lo.Num == x131.Num) && ((x8.Lo.Den == x131.Den) && ((x8.Open == true) && ((x8.Hi.Num == x133.Num) && (x8.Hi.Den == x133.Den))))) = true) => ?_) (fun (h135 : ((x8.Lo.Num == x131.Num) && ((x8.Lo.Den == x131.Den) && ((x8.Open == true) && ((x8.Hi.Num == x133.Num) && (x8.Hi.Den == x133.Den))))) = false) => ?_)
            · replace hm := if_t h135 hm
              refine ⟨([10, 11] : List Int).flatMap cI, ([10, 11] : List Int).length, ⟨rfl, rfl⟩, ?_⟩
              obtain ⟨x136, hx137, hm⟩ := bd_some hm
              refine CallOwn.det (d_R02_Same x11 (([10, 11] : List Int)) _ hx137) ?_
              refine VIf.mk (fun (h138 : x136 = true) => ?_) (fun (h138 : x136 = false) => ?_)
              · replace hm := if_t h138 hm
                refine VIf.mk (fun (h139 : ((x17.Lo == 476) && (x17.Hi == 500)) = true) => ?_) (fun (h139 : ((x17.Lo == 476) && (x17.Hi == 500)) = false) => ?_)
                · replace hm := if_t h139 hm
                  refine VIf.mk (fun (h140 : ((x20.Lo == 400) && (x20.Hi == 500)) = true) => ?_) (fun (h140 : ((x20.Lo == 400) && (x20.Hi == 500)) = false) => ?_)
                  · replace hm := if_t h140 hm
                    refine ⟨([(⟨470, 475, 0⟩ : TSpan), (⟨476, 529, 2⟩ : TSpan), (⟨530, 532, 1⟩ : TSpan)] : List TSpan).flatMap TSpan.c, ([(⟨470, 475, 0⟩ : TSpan), (⟨476, 529, 2⟩ : TSpan), (⟨530, 532, 1⟩ : TSpan)] : List TSpan).length, ⟨rfl, rfl⟩, ?_⟩
                    obtain ⟨x141, hx142, hm⟩ := bd_some hm
                    refine CallOwn.det (d_R02_SameSpans x23 (([(⟨470, 475, 0⟩ : TSpan), (⟨476, 529, 2⟩ : TSpan), (⟨530, 532, 1⟩ : TSpan)] : List TSpan)) _ hx142) ?_
                    cases hm
                    exact RetY.le (leD.refl _)
                  · replace hm := if_f h140 hm
                    cases hm
                    exact RetY.le (leD.refl _)
                · replace hm := if_f h139 hm
                  cases hm
                  exact RetY.le (leD.refl _)
              · replace hm := if_f h138 hm
                refine VIf.mk (fun (h143 : ((x17.Lo == 476) && (x17.Hi == 500)) = true) => ?_) (fun (h143 : ((x17.Lo == 476) && (x17.Hi == 500)) = false) => ?_)
                · replace hm := if_t h143 hm
                  refine VIf.mk (fun (h144 : ((x20.Lo == 400) && (x20.Hi == 500)) = true) => ?_) (fun (h144 : ((x20.Lo == 400) && (x20.Hi == 500)) = false) => ?_)
                  · replace hm := if_t h144 hm
                    refine ⟨([(⟨470, 475, 0⟩ : TSpan), (⟨476, 529, 2⟩ : TSpan), (⟨530, 532, 1⟩ : TSpan)] : List TSpan).flatMap TSpan.c, ([(⟨470, 475, 0⟩ : TSpan), (⟨476, 529, 2⟩ : TSpan), (⟨530, 532, 1⟩ : TSpan)] : List TSpan).length, ⟨rfl, rfl⟩, ?_⟩
                    obtain ⟨x145, hx146, hm⟩ := bd_some hm
                    refine CallOwn.det (d_R02_SameSpans x23 (([(⟨470, 475, 0⟩ : TSpan), (⟨476, 529, 2⟩ : TSpan), (⟨530, 532, 1⟩ : TSpan)] : List TSpan)) _ hx146) ?_
                    cases hm
                    exact RetY.le (leD.refl _)
                  · replace hm := if_f h144 hm
                    cases hm
                    exact RetY.le (leD.refl _)
                · replace hm := if_f h143 hm
                  cases hm
                  exact RetY.le (leD.refl _)
            · replace hm := if_f h135 hm
              refine VIf.mk (fun (h147 : ((x17.Lo == 476) && (x17.Hi == 500)) = true) => ?_) (fun (h147 : ((x17.Lo == 476) && (x17.Hi == 500)) = false) => ?_)
              · replace hm := if_t h147 hm
                refine VIf.mk (fun (h148 : ((x20.Lo == 400) && (x20.Hi == 500)) = true) => ?_) (fun (h148 : ((x20.Lo == 400) && (x20.Hi == 500)) = false) => ?_)
                · replace hm := if_t h148 hm
                  refine ⟨([(⟨470, 475, 0⟩ : TSpan), (⟨476, 529, 2⟩ : TSpan), (⟨530, 532, 1⟩ : TSpan)] : List TSpan).flatMap TSpan.c, ([(⟨470, 475, 0⟩ : TSpan), (⟨476, 529, 2⟩ : TSpan), (⟨530, 532, 1⟩ : TSpan)] : List TSpan).length, ⟨rfl, rfl⟩, ?_⟩
                  obtain ⟨x149, hx150, hm⟩ := bd_some hm
                  refine CallOwn.det (d_R02_SameSpans x23 (([(⟨470, 475, 0⟩ : TSpan), (⟨476, 529, 2⟩ : TSpan), (⟨530, 532, 1⟩ : TSpan)] : List TSpan)) _ hx150) ?_
                  cases hm
                  exact RetY.le (leD.refl _)
                · replace hm := if_f h148 hm
                  cases hm
                  exact RetY.le (leD.refl _)
              · replace hm := if_f h147 hm
                cases hm
                exact RetY.le (leD.refl _)
          · replace hm := if_f h130 hm
            refine VIf.mk (fun (h151 : ((x17.Lo == 476) && (x17.Hi == 500)) = true) => ?_) (fun (h151 : ((x17.Lo == 476) && (x17.Hi == 500)) = false) => ?_)
            · replace hm := if_t h151 hm
              refine VIf.mk (fun (h152 : ((x20.Lo == 400) && (x20.Hi == 500)) = true) => ?_) (fun (h152 : ((x20.Lo == 400) && (x20.Hi == 500)) = false) => ?_)
              · replace hm := if_t h152 hm
                refine ⟨([(⟨470, 475, 0⟩ : TSpan), (⟨476, 529, 2⟩ : TSpan), (⟨530, 532, 1⟩ : TSpan)] : List TSpan).flatMap TSpan.c, ([(⟨470, 475, 0⟩ : TSpan), (⟨476, 529, 2⟩ : TSpan), (⟨530, 532, 1⟩ : TSpan)] : List TSpan).length, ⟨rfl, rfl⟩, ?_⟩
                obtain ⟨x153, hx154, hm⟩ := bd_some hm
                refine CallOwn.det (d_R02_SameSpans x23 (([(⟨470, 475, 0⟩ : TSpan), (⟨476, 529, 2⟩ : TSpan), (⟨530, 532, 1⟩ : TSpan)] : List TSpan)) _ hx154) ?_
                cases hm
                exact RetY.le (leD.refl _)
              · replace hm := if_f h152 hm
                cases hm
                exact RetY.le (leD.refl _)
            · replace hm := if_f h151 hm
              cases hm
              exact RetY.le (leD.refl _)
      · replace hm := if_f h28 hm
        refine ⟨rfl, ?_⟩
        obtain ⟨x155, hx156, hm⟩ := bd_some hm
        refine CallY.det (d_L02_of 3 _ hx156) ?_
        refine VIf.mk (fun (h157 : ((x5.Num == x155.Num) && (x5.Den == x155.Den)) = true) => ?_) (fun (h157 : ((x5.Num == x155.Num) && (x5.Den == x155.Den)) = false) => ?_)
        · replace hm := if_t h157 hm
          obtain ⟨x158, hx159, hm⟩ := bd_some hm
          refine CallY.det (d_L02_of 1 _ hx159) ?_
          obtain ⟨x160, hx161, hm⟩ := bd_some hm
          refine CallY.det (d_L02_of 2 _ hx161) ?_
          refine VIf.mk (fun (h162 : ((x8.Lo.Num == x158.Num) && ((x8.Lo.Den == x158.Den) && ((x8.Open == true) && ((x8.Hi.Num == x160.Num) && (x8.Hi.Den == x160.Den))))) = true) => ?_) (fun (h162 : ((x8.Lo.Num == x158.Num) && ((x8.Lo.Den == x158.Den) && ((x8.Open == true) && ((x8.Hi.Num == x160.Num) && (x8.Hi.Den == x160.Den))))) = false) => ?_)
          · replace hm := if_t h162 hm
            refine ⟨([10, 11] : List Int).flatMap cI, ([10, 11] : List Int).length, ⟨rfl, rfl⟩, ?_⟩
            obtain ⟨x163, hx164, hm⟩ := bd_some hm
            refine CallOwn.det (d_R02_Same x11 (([10, 11] : List Int)) _ hx164) ?_
            refine VIf.mk (fun (h165 : x163 = true) => ?_) (fun (h165 : x163 = false) => ?_)
            · replace hm := if_t h165 hm
              refine VIf.mk (fun (h166 : ((x17.Lo == 476) && (x17.Hi == 500)) = true) => ?_) (fun (h166 : ((x17.Lo == 476) && (x17.Hi == 500)) = false) => ?_)
              · replace hm := if_t h166 hm
                refine VIf.mk (fun (h167 : ((x20.Lo == 400) && (x20.Hi == 500)) = true) => ?_) (fun (h167 : ((x20.Lo == 400) && (x20.Hi == 500)) = false) => ?_)
                · replace hm := if_t h167 hm
                  refine ⟨([(⟨470, 475, 0⟩ : TSpan), (⟨476, 529, 2⟩ : TSpan), (⟨530, 532, 1⟩ : TSpan)] : List TSpan).flatMap TSpan.c, ([(⟨470, 475, 0⟩ : TSpan), (⟨476, 529, 2⟩ : TSpan), (⟨530, 532, 1⟩ : TSpan)] : List TSpan).length, ⟨rfl, rfl⟩, ?_⟩
                  obtain ⟨x168, hx169, hm⟩ := bd_some hm
                  refine CallOwn.det (d_R02_SameSpans x23 (([(⟨470, 475, 0⟩ : TSpan), (⟨476, 529, 2⟩ : TSpan), (⟨530, 532, 1⟩ : TSpan)] : List TSpan)) _ hx169) ?_
                  cases hm
                  exact RetY.le (leD.refl _)
                · replace hm := if_f h167 hm
                  cases hm
                  exact RetY.le (leD.refl _)
              · replace hm := if_f h166 hm
                cases hm
                exact RetY.le (leD.refl _)
            · replace hm := if_f h165 hm
              refine VIf.mk (fun (h170 : ((x17.Lo == 476) && (x17.Hi == 500)) = true) => ?_) (fun (h170 : ((x17.Lo == 476) && (x17.Hi == 500)) = false) => ?_)
              · replace hm := if_t h170 hm
                refine VIf.mk (fun (h171 : ((x20.Lo == 400) && (x20.Hi == 500)) = true) => ?_) (fun (h171 : ((x20.Lo == 400) && (x20.Hi == 500)) = false) => ?_)
                · replace hm := if_t h171 hm
                  refine ⟨([(⟨470, 475, 0⟩ : TSpan), (⟨476, 529, 2⟩ : TSpan), (⟨530, 532, 1⟩ : TSpan)] : List TSpan).flatMap TSpan.c, ([(⟨470, 475, 0⟩ : TSpan), (⟨476, 529, 2⟩ : TSpan), (⟨530, 532, 1⟩ : TSpan)] : List TSpan).length, ⟨rfl, rfl⟩, ?_⟩
                  obtain ⟨x172, hx173, hm⟩ := bd_some hm
                  refine CallOwn.det (d_R02_SameSpans x23 (([(⟨470, 475, 0⟩ : TSpan), (⟨476, 529, 2⟩ : TSpan), (⟨530, 532, 1⟩ : TSpan)] : List TSpan)) _ hx173) ?_
                  cases hm
                  exact RetY.le (leD.refl _)
                · replace hm := if_f h171 hm
                  cases hm
                  exact RetY.le (leD.refl _)
              · replace hm := if_f h170 hm
                cases hm
                exact RetY.le (leD.refl _)
          · replace hm := if_f h162 hm
            refine VIf.mk (fun (h174 : ((x17.Lo == 476) && (x17.Hi == 500)) = true) => ?_) (fun (h174 : ((x17.Lo == 476) && (x17.Hi == 500)) = false) => ?_)
            · replace hm := if_t h174 hm
              refine VIf.mk (fun (h175 : ((x20.Lo == 400) && (x20.Hi == 500)) = true) => ?_) (fun (h175 : ((x20.Lo == 400) && (x20.Hi == 500)) = false) => ?_)
              · replace hm := if_t h175 hm
                refine ⟨([(⟨470, 475, 0⟩ : TSpan), (⟨476, 529, 2⟩ : TSpan), (⟨530, 532, 1⟩ : TSpan)] : List TSpan).flatMap TSpan.c, ([(⟨470, 475, 0⟩ : TSpan), (⟨476, 529, 2⟩ : TSpan), (⟨530, 532, 1⟩ : TSpan)] : List TSpan).length, ⟨rfl, rfl⟩, ?_⟩
                obtain ⟨x176, hx177, hm⟩ := bd_some hm
                refine CallOwn.det (d_R02_SameSpans x23 (([(⟨470, 475, 0⟩ : TSpan), (⟨476, 529, 2⟩ : TSpan), (⟨530, 532, 1⟩ : TSpan)] : List TSpan)) _ hx177) ?_
                cases hm
                exact RetY.le (leD.refl _)
              · replace hm := if_f h175 hm
                cases hm
                exact RetY.le (leD.refl _)
            · replace hm := if_f h174 hm
              cases hm
              exact RetY.le (leD.refl _)
        · replace hm := if_f h157 hm
          refine VIf.mk (fun (h178 : ((x17.Lo == 476) && (x17.Hi == 500)) = true) => ?_) (fun (h178 : ((x17.Lo == 476) && (x17.Hi == 500)) = false) => ?_)
          · replace hm := if_t h178 hm
            refine VIf.mk (fun (h179 : ((x20.Lo == 400) && (x20.Hi == 500)) = true) => ?_) (fun (h179 : ((x20.Lo == 400) && (x20.Hi == 500)) = false) => ?_)
            · replace hm := if_t h179 hm
              refine ⟨([(⟨470, 475, 0⟩ : TSpan), (⟨476, 529, 2⟩ : TSpan), (⟨530, 532, 1⟩ : TSpan)] : List TSpan).flatMap TSpan.c, ([(⟨470, 475, 0⟩ : TSpan), (⟨476, 529, 2⟩ : TSpan), (⟨530, 532, 1⟩ : TSpan)] : List TSpan).length, ⟨rfl, rfl⟩, ?_⟩
              obtain ⟨x180, hx181, hm⟩ := bd_some hm
              refine CallOwn.det (d_R02_SameSpans x23 (([(⟨470, 475, 0⟩ : TSpan), (⟨476, 529, 2⟩ : TSpan), (⟨530, 532, 1⟩ : TSpan)] : List TSpan)) _ hx181) ?_
              cases hm
              exact RetY.le (leD.refl _)
            · replace hm := if_f h179 hm
              cases hm
              exact RetY.le (leD.refl _)
          · replace hm := if_f h178 hm
            cases hm
            exact RetY.le (leD.refl _)
    · replace hm := if_f h27 hm
      refine ⟨rfl, ?_⟩
      obtain ⟨x182, hx183, hm⟩ := bd_some hm
      refine CallY.det (d_L02_of 3 _ hx183) ?_
      refine VIf.mk (fun (h184 : ((x5.Num == x182.Num) && (x5.Den == x182.Den)) = true) => ?_) (fun (h184 : ((x5.Num == x182.Num) && (x5.Den == x182.Den)) = false) => ?_)
      · replace hm := if_t h184 hm
        obtain ⟨x185, hx186, hm⟩ := bd_some hm
        refine CallY.det (d_L02_of 1 _ hx186) ?_
        obtain ⟨x187, hx188, hm⟩ := bd_some hm
        refine CallY.det (d_L02_of 2 _ hx188) ?_
        refine VIf.mk (fun (h189 : ((x8.Lo.Num == x185.Num) && ((x8.Lo.Den == x185.Den) && ((x8.Open == true) && ((x8.Hi.Num == x187.Num) && (x8.Hi.Den == x187.Den))))) = true) => ?_) (fun (h189 : ((x8.Lo.Num == x185.Num) && ((x8.Lo.Den == x185.Den) && ((x8.Open == true) && ((x8.Hi.Num == x187.Num) && (x8.Hi.Den == x187.Den))))) = false) => ?_)
        · replace hm := if_t h189 hm
          refine ⟨([10, 11] : List Int).flatMap cI, ([10, 11] : List Int).length, ⟨rfl, rfl⟩, ?_⟩
          obtain ⟨x190, hx191, hm⟩ := bd_some hm
          refine CallOwn.det (d_R02_Same x11 (([10, 11] : List Int)) _ hx191) ?_
          refine VIf.mk (fun (h192 : x190 = true) => ?_) (fun (h192 : x190 = false) => ?_)
          · replace hm := if_t h192 hm
            refine VIf.mk (fun (h193 : ((x17.Lo == 476) && (x17.Hi == 500)) = true) => ?_) (fun (h193 : ((x17.Lo == 476) && (x17.Hi == 500)) = false) => ?_)
            · replace hm := if_t h193 hm
              refine VIf.mk (fun (h194 : ((x20.Lo == 400) && (x20.Hi == 500)) = true) => ?_) (fun (h194 : ((x20.Lo == 400) && (x20.Hi == 500)) = false) => ?_)
              · replace hm := if_t h194 hm
                refine ⟨([(⟨470, 475, 0⟩ : TSpan), (⟨476, 529, 2⟩ : TSpan), (⟨530, 532, 1⟩ : TSpan)] : List TSpan).flatMap TSpan.c, ([(⟨470, 475, 0⟩ : TSpan), (⟨476, 529, 2⟩ : TSpan), (⟨530, 532, 1⟩ : TSpan)] : List TSpan).length, ⟨rfl, rfl⟩, ?_⟩
                obtain ⟨x195, hx196, hm⟩ := bd_some hm
                refine CallOwn.det (d_R02_SameSpans x23 (([(⟨470, 475, 0⟩ : TSpan), (⟨476, 529, 2⟩ : TSpan), (⟨530, 532, 1⟩ : TSpan)] : List TSpan)) _ hx196) ?_
                cases hm
                exact RetY.le (leD.refl _)
              · replace hm := if_f h194 hm
                cases hm
                exact RetY.le (leD.refl _)
            · replace hm := if_f h193 hm
              cases hm
              exact RetY.le (leD.refl _)
          · replace hm := if_f h192 hm
            refine VIf.mk (fun (h197 : ((x17.Lo == 476) && (x17.Hi == 500)) = true) => ?_) (fun (h197 : ((x17.Lo == 476) && (x17.Hi == 500)) = false) => ?_)
            · replace hm := if_t h197 hm
              refine VIf.mk (fun (h198 : ((x20.Lo == 400) && (x20.Hi == 500)) = true) => ?_) (fun (h198 : ((x20.Lo == 400) && (x20.Hi == 500)) = false) => ?_)
              · replace hm := if_t h198 hm
                refine ⟨([(⟨470, 475, 0⟩ : TSpan), (⟨476, 529, 2⟩ : TSpan), (⟨530, 532, 1⟩ : TSpan)] : List TSpan).flatMap TSpan.c, ([(⟨470, 475, 0⟩ : TSpan), (⟨476, 529, 2⟩ : TSpan), (⟨530, 532, 1⟩ : TSpan)] : List TSpan).length, ⟨rfl, rfl⟩, ?_⟩
                obtain ⟨x199, hx200, hm⟩ := bd_some hm
                refine CallOwn.det (d_R02_SameSpans x23 (([(⟨470, 475, 0⟩ : TSpan), (⟨476, 529, 2⟩ : TSpan), (⟨530, 532, 1⟩ : TSpan)] : List TSpan)) _ hx200) ?_
                cases hm
                exact RetY.le (leD.refl _)
              · replace hm := if_f h198 hm
                cases hm
                exact RetY.le (leD.refl _)
            · replace hm := if_f h197 hm
              cases hm
              exact RetY.le (leD.refl _)
        · replace hm := if_f h189 hm
          refine VIf.mk (fun (h201 : ((x17.Lo == 476) && (x17.Hi == 500)) = true) => ?_) (fun (h201 : ((x17.Lo == 476) && (x17.Hi == 500)) = false) => ?_)
          · replace hm := if_t h201 hm
            refine VIf.mk (fun (h202 : ((x20.Lo == 400) && (x20.Hi == 500)) = true) => ?_) (fun (h202 : ((x20.Lo == 400) && (x20.Hi == 500)) = false) => ?_)
            · replace hm := if_t h202 hm
              refine ⟨([(⟨470, 475, 0⟩ : TSpan), (⟨476, 529, 2⟩ : TSpan), (⟨530, 532, 1⟩ : TSpan)] : List TSpan).flatMap TSpan.c, ([(⟨470, 475, 0⟩ : TSpan), (⟨476, 529, 2⟩ : TSpan), (⟨530, 532, 1⟩ : TSpan)] : List TSpan).length, ⟨rfl, rfl⟩, ?_⟩
              obtain ⟨x203, hx204, hm⟩ := bd_some hm
              refine CallOwn.det (d_R02_SameSpans x23 (([(⟨470, 475, 0⟩ : TSpan), (⟨476, 529, 2⟩ : TSpan), (⟨530, 532, 1⟩ : TSpan)] : List TSpan)) _ hx204) ?_
              cases hm
              exact RetY.le (leD.refl _)
            · replace hm := if_f h202 hm
              cases hm
              exact RetY.le (leD.refl _)
          · replace hm := if_f h201 hm
            cases hm
            exact RetY.le (leD.refl _)
      · replace hm := if_f h184 hm
        refine VIf.mk (fun (h205 : ((x17.Lo == 476) && (x17.Hi == 500)) = true) => ?_) (fun (h205 : ((x17.Lo == 476) && (x17.Hi == 500)) = false) => ?_)
        · replace hm := if_t h205 hm
          refine VIf.mk (fun (h206 : ((x20.Lo == 400) && (x20.Hi == 500)) = true) => ?_) (fun (h206 : ((x20.Lo == 400) && (x20.Hi == 500)) = false) => ?_)
          · replace hm := if_t h206 hm
            refine ⟨([(⟨470, 475, 0⟩ : TSpan), (⟨476, 529, 2⟩ : TSpan), (⟨530, 532, 1⟩ : TSpan)] : List TSpan).flatMap TSpan.c, ([(⟨470, 475, 0⟩ : TSpan), (⟨476, 529, 2⟩ : TSpan), (⟨530, 532, 1⟩ : TSpan)] : List TSpan).length, ⟨rfl, rfl⟩, ?_⟩
            obtain ⟨x207, hx208, hm⟩ := bd_some hm
            refine CallOwn.det (d_R02_SameSpans x23 (([(⟨470, 475, 0⟩ : TSpan), (⟨476, 529, 2⟩ : TSpan), (⟨530, 532, 1⟩ : TSpan)] : List TSpan)) _ hx208) ?_
            cases hm
            exact RetY.le (leD.refl _)
          · replace hm := if_f h206 hm
            cases hm
            exact RetY.le (leD.refl _)
        · replace hm := if_f h205 hm
          cases hm
          exact RetY.le (leD.refl _)
  · replace hm := if_f h26 hm
    refine ⟨rfl, ?_⟩
    obtain ⟨x209, hx210, hm⟩ := bd_some hm
    refine CallY.det (d_L02_of 3 _ hx210) ?_
    refine VIf.mk (fun (h211 : ((x5.Num == x209.Num) && (x5.Den == x209.Den)) = true) => ?_) (fun (h211 : ((x5.Num == x209.Num) && (x5.Den == x209.Den)) = false) => ?_)
    · replace hm := if_t h211 hm
      obtain ⟨x212, hx213, hm⟩ := bd_some hm
      refine CallY.det (d_L02_of 1 _ hx213) ?_
      obtain ⟨x214, hx215, hm⟩ := bd_some hm
      refine CallY.det (d_L02_of 2 _ hx215) ?_
      refine VIf.mk (fun (h216 : ((x8.Lo.Num == x212.Num) && ((x8.Lo.Den == x212.Den) && ((x8.Open == true) && ((x8.Hi.Num == x214.Num) && (x8.Hi.Den == x214.Den))))) = true) => ?_) (fun (h216 : ((x8.Lo.Num == x212.Num) && ((x8.Lo.Den == x212.Den) && ((x8.Open == true) && ((x8.Hi.Num == x214.Num) && (x8.Hi.Den == x214.Den))))) = false) => ?_)
      · replace hm := if_t h216 hm
        refine ⟨([10, 11] : List Int).flatMap cI, ([10, 11] : List Int).length, ⟨rfl, rfl⟩, ?_⟩
        obtain ⟨x217, hx218, hm⟩ := bd_some hm
        refine CallOwn.det (d_R02_Same x11 (([10, 11] : List Int)) _ hx218) ?_
        refine VIf.mk (fun (h219 : x217 = true) => ?_) (fun (h219 : x217 = false) => ?_)
        · replace hm := if_t h219 hm
          refine VIf.mk (fun (h220 : ((x17.Lo == 476) && (x17.Hi == 500)) = true) => ?_) (fun (h220 : ((x17.Lo == 476) && (x17.Hi == 500)) = false) => ?_)
          · replace hm := if_t h220 hm
            refine VIf.mk (fun (h221 : ((x20.Lo == 400) && (x20.Hi == 500)) = true) => ?_) (fun (h221 : ((x20.Lo == 400) && (x20.Hi == 500)) = false) => ?_)
            · replace hm := if_t h221 hm
              refine ⟨([(⟨470, 475, 0⟩ : TSpan), (⟨476, 529, 2⟩ : TSpan), (⟨530, 532, 1⟩ : TSpan)] : List TSpan).flatMap TSpan.c, ([(⟨470, 475, 0⟩ : TSpan), (⟨476, 529, 2⟩ : TSpan), (⟨530, 532, 1⟩ : TSpan)] : List TSpan).length, ⟨rfl, rfl⟩, ?_⟩
              obtain ⟨x222, hx223, hm⟩ := bd_some hm
              refine CallOwn.det (d_R02_SameSpans x23 (([(⟨470, 475, 0⟩ : TSpan), (⟨476, 529, 2⟩ : TSpan), (⟨530, 532, 1⟩ : TSpan)] : List TSpan)) _ hx223) ?_
              cases hm
              exact RetY.le (leD.refl _)
            · replace hm := if_f h221 hm
              cases hm
              exact RetY.le (leD.refl _)
          · replace hm := if_f h220 hm
            cases hm
            exact RetY.le (leD.refl _)
        · replace hm := if_f h219 hm
          refine VIf.mk (fun (h224 : ((x17.Lo == 476) && (x17.Hi == 500)) = true) => ?_) (fun (h224 : ((x17.Lo == 476) && (x17.Hi == 500)) = false) => ?_)
          · replace hm := if_t h224 hm
            refine VIf.mk (fun (h225 : ((x20.Lo == 400) && (x20.Hi == 500)) = true) => ?_) (fun (h225 : ((x20.Lo == 400) && (x20.Hi == 500)) = false) => ?_)
            · replace hm := if_t h225 hm
              refine ⟨([(⟨470, 475, 0⟩ : TSpan), (⟨476, 529, 2⟩ : TSpan), (⟨530, 532, 1⟩ : TSpan)] : List TSpan).flatMap TSpan.c, ([(⟨470, 475, 0⟩ : TSpan), (⟨476, 529, 2⟩ : TSpan), (⟨530, 532, 1⟩ : TSpan)] : List TSpan).length, ⟨rfl, rfl⟩, ?_⟩
              obtain ⟨x226, hx227, hm⟩ := bd_some hm
              refine CallOwn.det (d_R02_SameSpans x23 (([(⟨470, 475, 0⟩ : TSpan), (⟨476, 529, 2⟩ : TSpan), (⟨530, 532, 1⟩ : TSpan)] : List TSpan)) _ hx227) ?_
              cases hm
              exact RetY.le (leD.refl _)
            · replace hm := if_f h225 hm
              cases hm
              exact RetY.le (leD.refl _)
          · replace hm := if_f h224 hm
            cases hm
            exact RetY.le (leD.refl _)
      · replace hm := if_f h216 hm
        refine VIf.mk (fun (h228 : ((x17.Lo == 476) && (x17.Hi == 500)) = true) => ?_) (fun (h228 : ((x17.Lo == 476) && (x17.Hi == 500)) = false) => ?_)
        · replace hm := if_t h228 hm
          refine VIf.mk (fun (h229 : ((x20.Lo == 400) && (x20.Hi == 500)) = true) => ?_) (fun (h229 : ((x20.Lo == 400) && (x20.Hi == 500)) = false) => ?_)
          · replace hm := if_t h229 hm
            refine ⟨([(⟨470, 475, 0⟩ : TSpan), (⟨476, 529, 2⟩ : TSpan), (⟨530, 532, 1⟩ : TSpan)] : List TSpan).flatMap TSpan.c, ([(⟨470, 475, 0⟩ : TSpan), (⟨476, 529, 2⟩ : TSpan), (⟨530, 532, 1⟩ : TSpan)] : List TSpan).length, ⟨rfl, rfl⟩, ?_⟩
            obtain ⟨x230, hx231, hm⟩ := bd_some hm
            refine CallOwn.det (d_R02_SameSpans x23 (([(⟨470, 475, 0⟩ : TSpan), (⟨476, 529, 2⟩ : TSpan), (⟨530, 532, 1⟩ : TSpan)] : List TSpan)) _ hx231) ?_
            cases hm
            exact RetY.le (leD.refl _)
          · replace hm := if_f h229 hm
            cases hm
            exact RetY.le (leD.refl _)
        · replace hm := if_f h228 hm
          cases hm
          exact RetY.le (leD.refl _)
    · replace hm := if_f h211 hm
      refine VIf.mk (fun (h232 : ((x17.Lo == 476) && (x17.Hi == 500)) = true) => ?_) (fun (h232 : ((x17.Lo == 476) && (x17.Hi == 500)) = false) => ?_)
      · replace hm := if_t h232 hm
        refine VIf.mk (fun (h233 : ((x20.Lo == 400) && (x20.Hi == 500)) = true) => ?_) (fun (h233 : ((x20.Lo == 400) && (x20.Hi == 500)) = false) => ?_)
        · replace hm := if_t h233 hm
          refine ⟨([(⟨470, 475, 0⟩ : TSpan), (⟨476, 529, 2⟩ : TSpan), (⟨530, 532, 1⟩ : TSpan)] : List TSpan).flatMap TSpan.c, ([(⟨470, 475, 0⟩ : TSpan), (⟨476, 529, 2⟩ : TSpan), (⟨530, 532, 1⟩ : TSpan)] : List TSpan).length, ⟨rfl, rfl⟩, ?_⟩
          obtain ⟨x234, hx235, hm⟩ := bd_some hm
          refine CallOwn.det (d_R02_SameSpans x23 (([(⟨470, 475, 0⟩ : TSpan), (⟨476, 529, 2⟩ : TSpan), (⟨530, 532, 1⟩ : TSpan)] : List TSpan)) _ hx235) ?_
          cases hm
          exact RetY.le (leD.refl _)
        · replace hm := if_f h233 hm
          cases hm
          exact RetY.le (leD.refl _)
      · replace hm := if_f h232 hm
        cases hm
        exact RetY.le (leD.refl _)

def m_R02_In (n : Int) (lo : Int) (hi : Int) : Option Bool :=
  if (decide (lo ≤ n)) = true then
    some (decide (n ≤ hi))
  else
    some false
set_option maxRecDepth 100000 in
set_option maxHeartbeats 2000000 in
theorem d_R02_In (n : Int) (lo : Int) (hi : Int) (r : Bool) (hm : m_R02_In n lo hi = some r) : Does Try.prog 123 [DI n, DI lo, DI hi] (fun x => x = DB r) := by
  refine does_y (X := ⟨Try.prog, tt, Try.f123.ntmps, [], [], [], []⟩) pok _ Try.func123 rfl rfl (Nat.le_of_ble_eq_true rfl) ?_
  refine VIf.mk (fun (h1 : (decide (lo ≤ n)) = true) => ?_) (fun (h1 : (decide (lo ≤ n)) = false) => ?_)
  · replace hm := if_t h1 hm
    cases hm
    exact RetY.le (leD.refl _)
  · replace hm := if_f h1 hm
    cases hm
    exact RetY.le (leD.refl _)

def m_R02_isFrac (x : TFrac) (most : Int) : Option Bool :=
  Option.bind (m_R02_In x.Den 1 most) fun x1 =>
  if x1 = true then
    Option.bind (m_R02_In x.Num (W ((-360) * x.Den)) (W (360 * x.Den))) fun x4 =>
    some x4
  else
    some false
set_option maxRecDepth 100000 in
set_option maxHeartbeats 2000000 in
theorem d_R02_isFrac (x : TFrac) (most : Int) (r : Bool) (hm : m_R02_isFrac x most = some r) : Does Try.prog 71 [.agg (TFrac.c x), DI most] (fun x => x = DB r) := by
  refine does_y (X := ⟨Try.prog, tt, Try.f71.ntmps, [], [], [], []⟩) pok _ Try.func71 rfl rfl (Nat.le_of_ble_eq_true rfl) ?_
  obtain ⟨x1, hx2, hm⟩ := bd_some hm
  refine CallY.det (d_R02_In x.Den 1 most _ hx2) ?_
  refine VIf.mk (fun (h3 : x1 = true) => ?_) (fun (h3 : x1 = false) => ?_)
  · replace hm := if_t h3 hm
    obtain ⟨x4, hx5, hm⟩ := bd_some hm
    refine CallY.det (d_R02_In x.Num (W ((-360) * x.Den)) (W (360 * x.Den)) _ hx5) ?_
    cases hm
    exact RetY.le (leD.refl _)
  · replace hm := if_f h3 hm
    cases hm
    exact RetY.le (leD.refl _)

def m_R02_Honest_L1 (r_ : TRaw) : (Int × (List (Int × Int × Int × Int))) → Option (Sum (Int × (List (Int × Int × Int × Int))) (Int × (List (Int × Int × Int × Int)))) := fun (i4, v5) =>
  if (decide (i4 < (r_.Sightings.length : Int))) = true then
    Option.bind (idx r_.Sightings i4) fun e10 =>
    gd ((v5.length + ([(e10.1, e10.2.1, 0, e10.2.2.2)] : List (Int × Int × Int × Int)).length) * 32 ≤ 140737488355328 ∧ v5.length + ([(e10.1, e10.2.1, 0, e10.2.2.2)] : List (Int × Int × Int × Int)).length ≤ 9223372036854775807) <|
    some (.inl ((W (i4 + 1)), (v5 ++ ([(e10.1, e10.2.1, 0, e10.2.2.2)] : List (Int × Int × Int × Int)))))
  else
    some (.inr (i4, v5))
def m_R02_Honest (r_ : TRaw) : Option TRaw :=
  Option.bind (loopF (m_R02_Honest_L1 r_) (0, [])) fun (i12, v13) =>
  some (⟨r_.Rows, r_.Sheets, r_.Roofs, v13, r_.Off⟩ : TRaw)
set_option maxRecDepth 100000 in
set_option maxHeartbeats 2000000 in
theorem d_R02_Honest (r_ : TRaw) (r : TRaw) (hm : m_R02_Honest r_ = some r) : Does Try.prog 72 [.agg (TRaw.c r_)] (fun x => x = .agg (TRaw.c r)) := by
  refine does_y (X := ⟨Try.prog, tt, Try.f72.ntmps, [], [], [], []⟩) pok _ Try.func72 rfl rfl (Nat.le_of_ble_eq_true rfl) ?_
  obtain ⟨ev14, he, hk15⟩ := bd_some hm
  refine LoopY.of (fun (lpx : Nat × (Int × (List (Int × Int × Int × Int)))) => match lpx with | (fu16, i4, v5) => (⟨[(0, .agg [.lst 1 r_.Rows.length (r_.Rows.flatMap (fun (x : (List (Int × Int × Int × Int))) => [.lst 4 x.length (x.flatMap (fun (x : (Int × Int × Int × Int)) => [DI x.1, DI x.2.1, DI x.2.2.1, DI x.2.2.2]))])), .lst 4 r_.Sheets.length (r_.Sheets.flatMap (fun (x : (Int × Int × Int × Int)) => [DI x.1, DI x.2.1, DI x.2.2.1, DI x.2.2.2])), .lst 3 r_.Roofs.length (r_.Roofs.flatMap (fun (x : (Int × Int × Int)) => [DI x.1, DI x.2.1, DI x.2.2])), .lst 4 r_.Sightings.length (r_.Sightings.flatMap (fun (x : (Int × Int × Int × Int)) => [DI x.1, DI x.2.1, DI x.2.2.1, DI x.2.2.2])), DI r_.Off]), (1, .own 0 0), (2, .own 1 0), (3, .own 2 0), (4, DI i4)], [(0, .blk [.lst 1 r_.Rows.length (r_.Rows.flatMap (fun (x : (List (Int × Int × Int × Int))) => [.lst 4 x.length (x.flatMap (fun (x : (Int × Int × Int × Int)) => [DI x.1, DI x.2.1, DI x.2.2.1, DI x.2.2.2]))])), .lst 4 r_.Sheets.length (r_.Sheets.flatMap (fun (x : (Int × Int × Int × Int)) => [DI x.1, DI x.2.1, DI x.2.2.1, DI x.2.2.2])), .lst 3 r_.Roofs.length (r_.Roofs.flatMap (fun (x : (Int × Int × Int)) => [DI x.1, DI x.2.1, DI x.2.2])), .lst 4 r_.Sightings.length (r_.Sightings.flatMap (fun (x : (Int × Int × Int × Int)) => [DI x.1, DI x.2.1, DI x.2.2.1, DI x.2.2.2])), DI r_.Off] 26), (1, .blk [.v (.slice none 0 0), .v (.slice none 0 0), .v (.slice none 0 0), .v (.slice none 0 0), DI 0] 26), (2, .blk [.lst 1 r_.Rows.length (r_.Rows.flatMap (fun (x : (List (Int × Int × Int × Int))) => [.lst 4 x.length (x.flatMap (fun (x : (Int × Int × Int × Int)) => [DI x.1, DI x.2.1, DI x.2.2.1, DI x.2.2.2]))])), .lst 4 r_.Sheets.length (r_.Sheets.flatMap (fun (x : (Int × Int × Int × Int)) => [DI x.1, DI x.2.1, DI x.2.2.1, DI x.2.2.2])), .lst 3 r_.Roofs.length (r_.Roofs.flatMap (fun (x : (Int × Int × Int)) => [DI x.1, DI x.2.1, DI x.2.2])), .row 3 4, DI r_.Off] 26), (3, .row 4 v5.length (v5.flatMap (fun (x : (Int × Int × Int × Int)) => [DI x.1, DI x.2.1, DI x.2.2.1, DI x.2.2.2])) 106)], 4⟩ : Sy)) (fun lpx => loopO (m_R02_Honest_L1 r_) lpx.1 lpx.2 = some ev14) (fun lpx => lpx.1) (FUEL, (0, [])) (SubY.of 3 rfl ⟨⟨_, rfl, leD.refl _⟩, ⟨_, rfl, leD.refl _⟩, ⟨_, rfl, leD.refl _⟩, ⟨_, rfl, leD.refl _⟩, ⟨_, rfl, leD.refl _⟩, trivial⟩ ⟨⟨_, rfl, leDL.refl _⟩, ⟨_, rfl, leDL.refl _⟩, ⟨_, rfl, leDL.refl _⟩, ⟨rfl, rfl⟩, trivial⟩) he ?_
  rintro ⟨fu16, i4, v5⟩ hi17
  obtain ⟨fu16, b, rfl, hm, hi17⟩ := loop_step hi17
  refine VIf.mk (fun (h18 : (decide (i4 < (r_.Sightings.length : Int))) = true) => ?_) (fun (h18 : (decide (i4 < (r_.Sightings.length : Int))) = false) => ?_)
  · replace hm := if_t h18 hm
    obtain ⟨e19, hx20, hm⟩ := bd_some hm
    refine ⟨_, el_idx (fun _ => rfl) hx20, ?_⟩
    refine ⟨by decide, ?_⟩
    refine ⟨([(e19.1, e19.2.1, 0, e19.2.2.2)] : List (Int × Int × Int × Int)).flatMap (fun (x : (Int × Int × Int × Int)) => [DI x.1, DI x.2.1, DI x.2.2.1, DI x.2.2.2]), ([(e19.1, e19.2.1, 0, e19.2.2.2)] : List (Int × Int × Int × Int)).length, ⟨rfl, rfl⟩, ?_⟩
    obtain ⟨hg, hm⟩ := gd_some hm
    refine ⟨hg, _, _, flat_app (c := (fun (x : (Int × Int × Int × Int)) => [DI x.1, DI x.2.1, DI x.2.2.1, DI x.2.2.2])) (l := (v5 : List (Int × Int × Int × Int))) (r := (([(e19.1, e19.2.1, 0, e19.2.2.2)] : List (Int × Int × Int × Int)) : List (Int × Int × Int × Int))), ?_⟩
    cases hm
    exact ⟨(fu16, ((W (i4 + 1)), (v5 ++ ([(e19.1, e19.2.1, 0, e19.2.2.2)] : List (Int × Int × Int × Int))))), SubY.of 4 rfl ⟨⟨_, rfl, leD.refl _⟩, ⟨_, rfl, leD.refl _⟩, ⟨_, rfl, leD.refl _⟩, ⟨_, rfl, leD.refl _⟩, ⟨_, rfl, leD.refl _⟩, trivial⟩ ⟨⟨_, rfl, leDL.refl _⟩, ⟨_, rfl, leDL.refl _⟩, ⟨_, rfl, leDL.refl _⟩, ⟨_, _, rfl, (by first | rfl | simp), rfl⟩, trivial⟩, hi17, Nat.lt_succ_self _⟩
  · replace hm := if_f h18 hm
    cases hm
    cases hi17
    have hm := hk15
    cases hm
    exact RetY.le (leD.refl _)

def m_R02_isMinute (n : Int) : Option Bool :=
  Option.bind (m_R02_In n 0 1439) fun x1 =>
  some x1
set_option maxRecDepth 100000 in
set_option maxHeartbeats 2000000 in
theorem d_R02_isMinute (n : Int) (r : Bool) (hm : m_R02_isMinute n = some r) : Does Try.prog 80 [DI n] (fun x => x = DB r) := by
  refine does_y (X := ⟨Try.prog, tt, Try.f80.ntmps, [], [], [], []⟩) pok _ Try.func80 rfl rfl (Nat.le_of_ble_eq_true rfl) ?_
  obtain ⟨x1, hx2, hm⟩ := bd_some hm
  refine CallY.det (d_R02_In n 0 1439 _ hx2) ?_
  cases hm
  exact RetY.le (leD.refl _)

def m_R02_isNight (n : Int) : Option Bool :=
  Option.bind (m_R02_In n 0 100000) fun x1 =>
  some x1
set_option maxRecDepth 100000 in
set_option maxHeartbeats 2000000 in
theorem d_R02_isNight (n : Int) (r : Bool) (hm : m_R02_isNight n = some r) : Does Try.prog 105 [DI n] (fun x => x = DB r) := by
  refine does_y (X := ⟨Try.prog, tt, Try.f105.ntmps, [], [], [], []⟩) pok _ Try.func105 rfl rfl (Nat.le_of_ble_eq_true rfl) ?_
  obtain ⟨x1, hx2, hm⟩ := bd_some hm
  refine CallY.det (d_R02_In n 0 100000 _ hx2) ?_
  cases hm
  exact RetY.le (leD.refl _)

def m_R02_areTimes (known : Int) (until_ : Int) : Option Bool :=
  Option.bind (m_R02_isNight known) fun x1 =>
  if x1 = true then
    if (until_ == 0) = true then
      some true
    else
      if (decide (until_ > known)) = true then
        some (decide (until_ ≤ 100000))
      else
        some false
  else
    some false
set_option maxRecDepth 100000 in
set_option maxHeartbeats 2000000 in
theorem d_R02_areTimes (known : Int) (until_ : Int) (r : Bool) (hm : m_R02_areTimes known until_ = some r) : Does Try.prog 126 [DI known, DI until_] (fun x => x = DB r) := by
  refine does_y (X := ⟨Try.prog, tt, Try.f126.ntmps, [], [], [], []⟩) pok _ Try.func126 rfl rfl (Nat.le_of_ble_eq_true rfl) ?_
  obtain ⟨x1, hx2, hm⟩ := bd_some hm
  refine CallY.det (d_R02_isNight known _ hx2) ?_
  refine VIf.mk (fun (h3 : x1 = true) => ?_) (fun (h3 : x1 = false) => ?_)
  · replace hm := if_t h3 hm
    refine VIf.mk (fun (h4 : (until_ == 0) = true) => ?_) (fun (h4 : (until_ == 0) = false) => ?_)
    · replace hm := if_t h4 hm
      cases hm
      exact RetY.le (leD.refl _)
    · replace hm := if_f h4 hm
      refine VIf.mk (fun (h5 : (decide (until_ > known)) = true) => ?_) (fun (h5 : (decide (until_ > known)) = false) => ?_)
      · replace hm := if_t h5 hm
        cases hm
        exact RetY.le (leD.refl _)
      · replace hm := if_f h5 hm
        cases hm
        exact RetY.le (leD.refl _)
  · replace hm := if_f h3 hm
    cases hm
    exact RetY.le (leD.refl _)

def m_R02_isRow (r_ : TRow) : Option Bool :=
  Option.bind (m_R02_isMinute r_.Minute) fun x1 =>
  if (!x1) = true then
    some false
  else
    Option.bind (m_R02_isFrac r_.Height 100) fun x4 =>
    if (!x4) = true then
      some false
    else
      Option.bind (m_R02_isFrac r_.Bearing 100) fun x7 =>
      if (!x7) = true then
        some false
      else
        Option.bind (m_R02_In r_.Height.Num (W ((-90) * r_.Height.Den)) (W (90 * r_.Height.Den))) fun x10 =>
        if x10 = true then
          Option.bind (m_R02_In r_.Bearing.Num 0 (W ((W (360 * r_.Bearing.Den)) - 1))) fun x13 =>
          some x13
        else
          some false
set_option maxRecDepth 100000 in
set_option maxHeartbeats 2000000 in
theorem d_R02_isRow (r_ : TRow) (r : Bool) (hm : m_R02_isRow r_ = some r) : Does Try.prog 127 [.agg (TRow.c r_)] (fun x => x = DB r) := by
  refine does_y (X := ⟨Try.prog, tt, Try.f127.ntmps, [], [], [], []⟩) pok _ Try.func127 rfl rfl (Nat.le_of_ble_eq_true rfl) ?_
  obtain ⟨x1, hx2, hm⟩ := bd_some hm
  refine CallY.det (d_R02_isMinute r_.Minute _ hx2) ?_
  refine VIf.mk (fun (h3 : (!x1) = true) => ?_) (fun (h3 : (!x1) = false) => ?_)
  · replace hm := if_t h3 hm
    cases hm
    exact RetY.le (leD.refl _)
  · replace hm := if_f h3 hm
    obtain ⟨x4, hx5, hm⟩ := bd_some hm
    refine CallY.det (d_R02_isFrac r_.Height 100 _ hx5) ?_
    refine VIf.mk (fun (h6 : (!x4) = true) => ?_) (fun (h6 : (!x4) = false) => ?_)
    · replace hm := if_t h6 hm
      cases hm
      exact RetY.le (leD.refl _)
    · replace hm := if_f h6 hm
      obtain ⟨x7, hx8, hm⟩ := bd_some hm
      refine CallY.det (d_R02_isFrac r_.Bearing 100 _ hx8) ?_
      refine VIf.mk (fun (h9 : (!x7) = true) => ?_) (fun (h9 : (!x7) = false) => ?_)
      · replace hm := if_t h9 hm
        cases hm
        exact RetY.le (leD.refl _)
      · replace hm := if_f h9 hm
        obtain ⟨x10, hx11, hm⟩ := bd_some hm
        refine CallY.det (d_R02_In r_.Height.Num (W ((-90) * r_.Height.Den)) (W (90 * r_.Height.Den)) _ hx11) ?_
        refine VIf.mk (fun (h12 : x10 = true) => ?_) (fun (h12 : x10 = false) => ?_)
        · replace hm := if_t h12 hm
          obtain ⟨x13, hx14, hm⟩ := bd_some hm
          refine CallY.det (d_R02_In r_.Bearing.Num 0 (W ((W (360 * r_.Bearing.Den)) - 1)) _ hx14) ?_
          cases hm
          exact RetY.le (leD.refl _)
        · replace hm := if_f h12 hm
          cases hm
          exact RetY.le (leD.refl _)

def m_R02_CheckSheet_L1 (s : TSheet) : Int → Option (Sum Int (Sum Int Int)) := fun i19 =>
  if (decide (i19 < (s.Rows.length : Int))) = true then
    Option.bind (idx s.Rows i19) fun e40 =>
    Option.bind (m_R02_isRow e40) fun x42 =>
    if (!x42) = true then
      some (.inr (.inr 21))
    else
      if (decide (i19 > 0)) = true then
        Option.bind (idx s.Rows (W (i19 - 1))) fun e46 =>
        Option.bind (idx s.Rows i19) fun e48 =>
        if (decide (e46.Minute ≥ e48.Minute)) = true then
          some (.inr (.inr 21))
        else
          Option.bind (idx s.Rows (W (i19 - 1))) fun e51 =>
          Option.bind (idx s.Rows i19) fun e53 =>
          Option.bind (m_R02_sign e51.Bearing e53.Bearing) fun x55 =>
          if (decide (x55 > 0)) = true then
            some (.inr (.inr 21))
          else
            some (.inl (W (i19 + 1)))
      else
        some (.inl (W (i19 + 1)))
  else
    some (.inr (.inl i19))
def m_R02_CheckSheet (s : TSheet) : Option Int :=
  Option.bind (m_R02_In s.Source 1 99999) fun x1 =>
  if (!x1) = true then
    some 21
  else
    Option.bind (m_R02_isNight s.Night) fun x4 =>
    if (!x4) = true then
      some 21
    else
      Option.bind (m_R02_areTimes s.Known s.Until) fun x7 =>
      if (!x7) = true then
        some 21
      else
        Option.bind (m_R02_In (s.Rows.length : Int) 2 12) fun x10 =>
        if (!x10) = true then
          some 21
        else
          Option.bind (loopF (m_R02_CheckSheet_L1 s) 0) fun e =>
          match e with
          | .inl i58 =>
            Option.bind (idx s.Rows 0) fun e59 =>
            if (e59.Minute != 0) = true then
              some 21
            else
              Option.bind (idx s.Rows (W ((s.Rows.length : Int) - 1))) fun e62 =>
              if (e62.Minute != 1439) = true then
                some 21
              else
                Option.bind (m_R02_isFrac s.Off 100) fun x65 =>
                if (!x65) = true then
                  some 21
                else
                  Option.bind (m_R02_In s.Off.Num 0 (W (90 * s.Off.Den))) fun x68 =>
                  if (!x68) = true then
                    some 21
                  else
                    if (decide (s.Light.Lo < 0)) = true then
                      some 21
                    else
                      if (decide (s.Light.Lo > s.Light.Hi)) = true then
                        some 21
                      else
                        if (decide (s.Light.Hi > 1000)) = true then
                          some 21
                        else
                          some 0
          | .inr rr74 =>
            some rr74
set_option maxRecDepth 100000 in
set_option maxHeartbeats 2000000 in
theorem d_R02_CheckSheet (s : TSheet) (r : Int) (hm : m_R02_CheckSheet s = some r) : Does Try.prog 79 [.agg (TSheet.c s)] (fun x => x = DI r) := by
  refine does_y (X := ⟨Try.prog, tt, Try.f79.ntmps, pl79, [], [], []⟩) pok _ Try.func79 rfl rfl (Nat.le_of_ble_eq_true rfl) ?_
  obtain ⟨x1, hx2, hm⟩ := bd_some hm
  refine CallY.det (d_R02_In s.Source 1 99999 _ hx2) ?_
  refine VIf.mk (fun (h3 : (!x1) = true) => ?_) (fun (h3 : (!x1) = false) => ?_)
  · replace hm := if_t h3 hm
    cases hm
    exact RetY.le (leD.refl _)
  · replace hm := if_f h3 hm
    obtain ⟨x4, hx5, hm⟩ := bd_some hm
    refine CallY.det (d_R02_isNight s.Night _ hx5) ?_
    refine VIf.mk (fun (h6 : (!x4) = true) => ?_) (fun (h6 : (!x4) = false) => ?_)
    · replace hm := if_t h6 hm
      cases hm
      exact RetY.le (leD.refl _)
    · replace hm := if_f h6 hm
      obtain ⟨x7, hx8, hm⟩ := bd_some hm
      refine CallY.det (d_R02_areTimes s.Known s.Until _ hx8) ?_
      refine VIf.mk (fun (h9 : (!x7) = true) => ?_) (fun (h9 : (!x7) = false) => ?_)
      · replace hm := if_t h9 hm
        cases hm
        exact RetY.le (leD.refl _)
      · replace hm := if_f h9 hm
        obtain ⟨x10, hx11, hm⟩ := bd_some hm
        refine CallY.det (d_R02_In ((s.Rows.length : Int)) 2 12 _ hx11) ?_
        refine VIf.mk (fun (h12 : (!x10) = true) => ?_) (fun (h12 : (!x10) = false) => ?_)
        · replace hm := if_t h12 hm
          cases hm
          exact RetY.le (leD.refl _)
        · replace hm := if_f h12 hm
          obtain ⟨ev75, he, hk76⟩ := bd_some hm
          refine LoopY.of (fun (lpx : Nat × Int) => match lpx with | (fu77, i19) => (⟨[(0, .agg [DI s.Source, DI s.Night, DI s.Known, DI s.Until, .lst 5 s.Rows.length (s.Rows.flatMap TRow.c), DI s.Off.Num, DI s.Off.Den, DI s.Light.Lo, DI s.Light.Hi]), (1, .own 0 0), (2, DI 0), (3, DI (s.Rows.length : Int)), (4, DI i19), (30, DB (!x10))], [(0, .blk [DI s.Source, DI s.Night, DI s.Known, DI s.Until, .lst 5 s.Rows.length (s.Rows.flatMap TRow.c), DI s.Off.Num, DI s.Off.Den, DI s.Light.Lo, DI s.Light.Hi] 41)], 1⟩ : Sy)) (fun lpx => loopO (m_R02_CheckSheet_L1 s) lpx.1 lpx.2 = some ev75) (fun lpx => lpx.1) (FUEL, 0) (SubY.of 1 rfl ⟨⟨_, rfl, leD.refl _⟩, ⟨_, rfl, leD.refl _⟩, ⟨_, rfl, leD.refl _⟩, ⟨_, rfl, leD.refl _⟩, ⟨_, rfl, leD.refl _⟩, ⟨_, rfl, leD.refl _⟩, trivial⟩ ⟨⟨_, rfl, leDL.refl _⟩, trivial⟩) he ?_
          rintro ⟨fu77, i19⟩ hi78
          obtain ⟨fu77, b, rfl, hm, hi78⟩ := loop_step hi78
          refine VIf.mk (fun (h79 : (decide (i19 < (s.Rows.length : Int))) = true) => ?_) (fun (h79 : (decide (i19 < (s.Rows.length : Int))) = false) => ?_)
          · replace hm := if_t h79 hm
            obtain ⟨e80, hx81, hm⟩ := bd_some hm
            refine ⟨_, el_idx (fun _ => rfl) hx81, ?_⟩
            obtain ⟨x82, hx83, hm⟩ := bd_some hm
            refine CallY.det (d_R02_isRow e80 _ hx83) ?_
            refine VIf.mk (fun (h84 : (!x82) = true) => ?_) (fun (h84 : (!x82) = false) => ?_)
            · replace hm := if_t h84 hm
              cases hm
              cases hi78
              have hm := hk76
              cases hm
              exact RetY.le (leD.refl _)
            · replace hm := if_f h84 hm
              refine ⟨rfl, ?_⟩
              refine VIf.mk (fun (h85 : (decide (i19 > 0)) = true) => ?_) (fun (h85 : (decide (i19 > 0)) = false) => ?_)
              · replace hm := if_t h85 hm
                obtain ⟨e86, hx87, hm⟩ := bd_some hm
                refine ⟨_, el_idx (fun _ => rfl) hx87, ?_⟩
                obtain ⟨e88, hx89, hm⟩ := bd_some hm
                refine ⟨_, el_idx (fun _ => rfl) hx89, ?_⟩
                refine VIf.mk (fun (h90 : (decide (e86.Minute ≥ e88.Minute)) = true) => ?_) (fun (h90 : (decide (e86.Minute ≥ e88.Minute)) = false) => ?_)
                · replace hm := if_t h90 hm
                  cases hm
                  cases hi78
                  have hm := hk76
                  cases hm
                  exact RetY.le (leD.refl _)
                · replace hm := if_f h90 hm
                  obtain ⟨e91, hx92, hm⟩ := bd_some hm
                  refine ⟨_, el_idx (fun _ => rfl) hx92, ?_⟩
                  obtain ⟨e93, hx94, hm⟩ := bd_some hm
                  refine ⟨_, el_idx (fun _ => rfl) hx94, ?_⟩
                  obtain ⟨x95, hx96, hm⟩ := bd_some hm
                  refine CallY.det (d_R02_sign e91.Bearing e93.Bearing _ hx96) ?_
                  refine VIf.mk (fun (h97 : (decide (x95 > 0)) = true) => ?_) (fun (h97 : (decide (x95 > 0)) = false) => ?_)
                  · replace hm := if_t h97 hm
                    cases hm
                    cases hi78
                    have hm := hk76
                    cases hm
                    exact RetY.le (leD.refl _)
                  · replace hm := if_f h97 hm
                    cases hm
                    exact ⟨(fu77, (W (i19 + 1))), SubY.of 1 rfl ⟨⟨_, rfl, leD.refl _⟩, ⟨_, rfl, leD.refl _⟩, ⟨_, rfl, leD.refl _⟩, ⟨_, rfl, leD.refl _⟩, ⟨_, rfl, leD.refl _⟩, ⟨_, rfl, leD.refl _⟩, trivial⟩ ⟨⟨_, rfl, leDL.refl _⟩, trivial⟩, hi78, Nat.lt_succ_self _⟩
              · replace hm := if_f h85 hm
                cases hm
                exact ⟨(fu77, (W (i19 + 1))), SubY.of 1 rfl ⟨⟨_, rfl, leD.refl _⟩, ⟨_, rfl, leD.refl _⟩, ⟨_, rfl, leD.refl _⟩, ⟨_, rfl, leD.refl _⟩, ⟨_, rfl, leD.refl _⟩, ⟨_, rfl, leD.refl _⟩, trivial⟩ ⟨⟨_, rfl, leDL.refl _⟩, trivial⟩, hi78, Nat.lt_succ_self _⟩
          · replace hm := if_f h79 hm
            cases hm
            cases hi78
            have hm := hk76
            obtain ⟨e98, hx99, hm⟩ := bd_some hm
            refine ⟨_, el_idx (fun _ => rfl) hx99, ?_⟩
            refine VIf.mk (fun (h100 : (e98.Minute != 0) = true) => ?_) (fun (h100 : (e98.Minute != 0) = false) => ?_)
            · replace hm := if_t h100 hm
              cases hm
              exact RetY.le (leD.refl _)
            · replace hm := if_f h100 hm
              obtain ⟨e101, hx102, hm⟩ := bd_some hm
              refine ⟨_, el_idx (fun _ => rfl) hx102, ?_⟩
              refine VIf.mk (fun (h103 : (e101.Minute != 1439) = true) => ?_) (fun (h103 : (e101.Minute != 1439) = false) => ?_)
              · replace hm := if_t h103 hm
                cases hm
                exact RetY.le (leD.refl _)
              · replace hm := if_f h103 hm
                obtain ⟨x104, hx105, hm⟩ := bd_some hm
                refine CallY.det (d_R02_isFrac s.Off 100 _ hx105) ?_
                refine VIf.mk (fun (h106 : (!x104) = true) => ?_) (fun (h106 : (!x104) = false) => ?_)
                · replace hm := if_t h106 hm
                  cases hm
                  exact RetY.le (leD.refl _)
                · replace hm := if_f h106 hm
                  obtain ⟨x107, hx108, hm⟩ := bd_some hm
                  refine CallY.det (d_R02_In s.Off.Num 0 (W (90 * s.Off.Den)) _ hx108) ?_
                  refine VIf.mk (fun (h109 : (!x107) = true) => ?_) (fun (h109 : (!x107) = false) => ?_)
                  · replace hm := if_t h109 hm
                    cases hm
                    exact RetY.le (leD.refl _)
                  · replace hm := if_f h109 hm
                    refine VIf.mk (fun (h110 : (decide (s.Light.Lo < 0)) = true) => ?_) (fun (h110 : (decide (s.Light.Lo < 0)) = false) => ?_)
                    · replace hm := if_t h110 hm
                      cases hm
                      exact RetY.le (leD.refl _)
                    · replace hm := if_f h110 hm
                      refine VIf.mk (fun (h111 : (decide (s.Light.Lo > s.Light.Hi)) = true) => ?_) (fun (h111 : (decide (s.Light.Lo > s.Light.Hi)) = false) => ?_)
                      · replace hm := if_t h111 hm
                        cases hm
                        exact RetY.le (leD.refl _)
                      · replace hm := if_f h111 hm
                        refine VIf.mk (fun (h112 : (decide (s.Light.Hi > 1000)) = true) => ?_) (fun (h112 : (decide (s.Light.Hi > 1000)) = false) => ?_)
                        · replace hm := if_t h112 hm
                          cases hm
                          exact RetY.le (leD.refl _)
                        · replace hm := if_f h112 hm
                          cases hm
                          exact RetY.le (leD.refl _)

def m_R02_CheckRoof (r_ : TRoof) : Option Int :=
  if (decide (r_.From < 0)) = true then
    some 22
  else
    if (decide (r_.From ≥ r_.To)) = true then
      some 22
    else
      if (decide (r_.To > 360)) = true then
        some 22
      else
        Option.bind (m_R02_In r_.Top 0 90) fun x4 =>
        if (!x4) = true then
          some 22
        else
          some 0
set_option maxRecDepth 100000 in
set_option maxHeartbeats 2000000 in
theorem d_R02_CheckRoof (r_ : TRoof) (r : Int) (hm : m_R02_CheckRoof r_ = some r) : Does Try.prog 131 [.agg (TRoof.c r_)] (fun x => x = DI r) := by
  refine does_y (X := ⟨Try.prog, tt, Try.f131.ntmps, [], [], [], []⟩) pok _ Try.func131 rfl rfl (Nat.le_of_ble_eq_true rfl) ?_
  refine VIf.mk (fun (h1 : (decide (r_.From < 0)) = true) => ?_) (fun (h1 : (decide (r_.From < 0)) = false) => ?_)
  · replace hm := if_t h1 hm
    cases hm
    exact RetY.le (leD.refl _)
  · replace hm := if_f h1 hm
    refine VIf.mk (fun (h2 : (decide (r_.From ≥ r_.To)) = true) => ?_) (fun (h2 : (decide (r_.From ≥ r_.To)) = false) => ?_)
    · replace hm := if_t h2 hm
      cases hm
      exact RetY.le (leD.refl _)
    · replace hm := if_f h2 hm
      refine VIf.mk (fun (h3 : (decide (r_.To > 360)) = true) => ?_) (fun (h3 : (decide (r_.To > 360)) = false) => ?_)
      · replace hm := if_t h3 hm
        cases hm
        exact RetY.le (leD.refl _)
      · replace hm := if_f h3 hm
        obtain ⟨x4, hx5, hm⟩ := bd_some hm
        refine CallY.det (d_R02_In r_.Top 0 90 _ hx5) ?_
        refine VIf.mk (fun (h6 : (!x4) = true) => ?_) (fun (h6 : (!x4) = false) => ?_)
        · replace hm := if_t h6 hm
          cases hm
          exact RetY.le (leD.refl _)
        · replace hm := if_f h6 hm
          cases hm
          exact RetY.le (leD.refl _)

def m_R02_areRoofs_L1 (l : (List TRoof)) : Int → Option (Sum Int (Sum Int Bool)) := fun i8 =>
  if (decide (i8 < (l.length : Int))) = true then
    Option.bind (idx l i8) fun e16 =>
    Option.bind (m_R02_CheckRoof e16) fun x18 =>
    if (x18 != 0) = true then
      some (.inr (.inr false))
    else
      some (.inl (W (i8 + 1)))
  else
    some (.inr (.inl i8))
def m_R02_areRoofs (l : (List TRoof)) : Option Bool :=
  if (decide ((l.length : Int) > 12)) = true then
    some false
  else
    Option.bind (loopF (m_R02_areRoofs_L1 l) 0) fun e =>
    match e with
    | .inl i21 =>
      some true
    | .inr rr22 =>
      some rr22
set_option maxRecDepth 100000 in
set_option maxHeartbeats 2000000 in
theorem d_R02_areRoofs (l : (List TRoof)) (r : Bool) (hm : m_R02_areRoofs l = some r) : Does Try.prog 85 [.lst 3 l.length (l.flatMap TRoof.c)] (fun x => x = DB r) := by
  refine does_y (X := ⟨Try.prog, tt, Try.f85.ntmps, [], [], [], []⟩) pok _ Try.func85 rfl rfl (Nat.le_of_ble_eq_true rfl) ?_
  refine VIf.mk (fun (h1 : (decide ((l.length : Int) > 12)) = true) => ?_) (fun (h1 : (decide ((l.length : Int) > 12)) = false) => ?_)
  · replace hm := if_t h1 hm
    cases hm
    exact RetY.le (leD.refl _)
  · replace hm := if_f h1 hm
    obtain ⟨ev23, he, hk24⟩ := bd_some hm
    refine LoopY.of (fun (lpx : Nat × Int) => match lpx with | (fu25, i8) => (⟨[(0, .lst 3 l.length (l.flatMap TRoof.c)), (2, DB false), (3, DI i8), (6, DB (decide ((l.length : Int) > 12)))], [], 0⟩ : Sy)) (fun lpx => loopO (m_R02_areRoofs_L1 l) lpx.1 lpx.2 = some ev23) (fun lpx => lpx.1) (FUEL, 0) (SubY.of 0 rfl ⟨⟨_, rfl, leD.refl _⟩, ⟨_, rfl, leD.refl _⟩, ⟨_, rfl, leD.refl _⟩, ⟨_, rfl, leD.refl _⟩, trivial⟩ trivial) he ?_
    rintro ⟨fu25, i8⟩ hi26
    obtain ⟨fu25, b, rfl, hm, hi26⟩ := loop_step hi26
    refine VIf.mk (fun (h27 : (decide (i8 < (l.length : Int))) = true) => ?_) (fun (h27 : (decide (i8 < (l.length : Int))) = false) => ?_)
    · replace hm := if_t h27 hm
      obtain ⟨e28, hx29, hm⟩ := bd_some hm
      refine ⟨_, el_idx (fun _ => rfl) hx29, ?_⟩
      obtain ⟨x30, hx31, hm⟩ := bd_some hm
      refine CallY.det (d_R02_CheckRoof e28 _ hx31) ?_
      refine VIf.mk (fun (h32 : (x30 != 0) = true) => ?_) (fun (h32 : (x30 != 0) = false) => ?_)
      · replace hm := if_t h32 hm
        cases hm
        cases hi26
        have hm := hk24
        cases hm
        exact RetY.le (leD.refl _)
      · replace hm := if_f h32 hm
        cases hm
        exact ⟨(fu25, (W (i8 + 1))), SubY.of 0 rfl ⟨⟨_, rfl, leD.refl _⟩, ⟨_, rfl, leD.refl _⟩, ⟨_, rfl, leD.refl _⟩, ⟨_, rfl, leD.refl _⟩, trivial⟩ trivial, hi26, Nat.lt_succ_self _⟩
    · replace hm := if_f h27 hm
      cases hm
      cases hi26
      have hm := hk24
      cases hm
      exact RetY.le (leD.refl _)

def m_R02_CheckSighting (s : TSighting) : Option Int :=
  Option.bind (m_R02_In s.Source 1 99999) fun x1 =>
  if (!x1) = true then
    some 23
  else
    Option.bind (m_R02_isNight s.Night) fun x4 =>
    if (!x4) = true then
      some 23
    else
      Option.bind (m_R02_isMinute s.Minute) fun x7 =>
      if (!x7) = true then
        some 23
      else
        Option.bind (m_R02_areTimes s.Known s.Until) fun x10 =>
        if (!x10) = true then
          some 23
        else
          some 0
set_option maxRecDepth 100000 in
set_option maxHeartbeats 2000000 in
theorem d_R02_CheckSighting (s : TSighting) (r : Int) (hm : m_R02_CheckSighting s = some r) : Does Try.prog 141 [.agg (TSighting.c s)] (fun x => x = DI r) := by
  refine does_y (X := ⟨Try.prog, tt, Try.f141.ntmps, [], [], [], []⟩) pok _ Try.func141 rfl rfl (Nat.le_of_ble_eq_true rfl) ?_
  obtain ⟨x1, hx2, hm⟩ := bd_some hm
  refine CallY.det (d_R02_In s.Source 1 99999 _ hx2) ?_
  refine VIf.mk (fun (h3 : (!x1) = true) => ?_) (fun (h3 : (!x1) = false) => ?_)
  · replace hm := if_t h3 hm
    cases hm
    exact RetY.le (leD.refl _)
  · replace hm := if_f h3 hm
    obtain ⟨x4, hx5, hm⟩ := bd_some hm
    refine CallY.det (d_R02_isNight s.Night _ hx5) ?_
    refine VIf.mk (fun (h6 : (!x4) = true) => ?_) (fun (h6 : (!x4) = false) => ?_)
    · replace hm := if_t h6 hm
      cases hm
      exact RetY.le (leD.refl _)
    · replace hm := if_f h6 hm
      obtain ⟨x7, hx8, hm⟩ := bd_some hm
      refine CallY.det (d_R02_isMinute s.Minute _ hx8) ?_
      refine VIf.mk (fun (h9 : (!x7) = true) => ?_) (fun (h9 : (!x7) = false) => ?_)
      · replace hm := if_t h9 hm
        cases hm
        exact RetY.le (leD.refl _)
      · replace hm := if_f h9 hm
        obtain ⟨x10, hx11, hm⟩ := bd_some hm
        refine CallY.det (d_R02_areTimes s.Known s.Until _ hx11) ?_
        refine VIf.mk (fun (h12 : (!x10) = true) => ?_) (fun (h12 : (!x10) = false) => ?_)
        · replace hm := if_t h12 hm
          cases hm
          exact RetY.le (leD.refl _)
        · replace hm := if_f h12 hm
          cases hm
          exact RetY.le (leD.refl _)

def m_R02_Check_L1 (s : TSky) : Int → Option (Sum Int (Sum Int Int)) := fun i12 =>
  if (decide (i12 < (s.Sheets.length : Int))) = true then
    Option.bind (idx s.Sheets i12) fun e26 =>
    Option.bind (m_R02_CheckSheet e26) fun x28 =>
    if (x28 != 0) = true then
      some (.inr (.inr 24))
    else
      if (decide (i12 > 0)) = true then
        Option.bind (idx s.Sheets (W (i12 - 1))) fun e32 =>
        Option.bind (idx s.Sheets i12) fun e34 =>
        if (decide (e32.Source ≥ e34.Source)) = true then
          some (.inr (.inr 24))
        else
          some (.inl (W (i12 + 1)))
      else
        some (.inl (W (i12 + 1)))
  else
    some (.inr (.inl i12))
def m_R02_Check_L2 (s : TSky) : Int → Option (Sum Int (Sum Int Int)) := fun i44 =>
  if (decide (i44 < (s.Sightings.length : Int))) = true then
    Option.bind (idx s.Sightings i44) fun e58 =>
    Option.bind (m_R02_CheckSighting e58) fun x60 =>
    if (x60 != 0) = true then
      some (.inr (.inr 24))
    else
      if (decide (i44 > 0)) = true then
        Option.bind (idx s.Sightings (W (i44 - 1))) fun e64 =>
        Option.bind (idx s.Sightings i44) fun e66 =>
        if (decide (e64.Source ≥ e66.Source)) = true then
          some (.inr (.inr 24))
        else
          some (.inl (W (i44 + 1)))
      else
        some (.inl (W (i44 + 1)))
  else
    some (.inr (.inl i44))
def m_R02_Check (s : TSky) : Option Int :=
  if (decide ((s.Sheets.length : Int) > 60)) = true then
    some 24
  else
    if (decide ((s.Sightings.length : Int) > 60)) = true then
      some 24
    else
      Option.bind (m_R02_areRoofs s.Roofs) fun x3 =>
      if (!x3) = true then
        some 24
      else
        Option.bind (loopF (m_R02_Check_L1 s) 0) fun e =>
        match e with
        | .inl i37 =>
          Option.bind (loopF (m_R02_Check_L2 s) 0) fun e =>
          match e with
          | .inl i69 =>
            some 0
          | .inr rr70 =>
            some rr70
        | .inr rr87 =>
          some rr87
set_option maxRecDepth 100000 in
set_option maxHeartbeats 2000000 in
theorem d_R02_Check (s : TSky) (r : Int) (hm : m_R02_Check s = some r) : Does Try.prog 104 [.agg (TSky.c s)] (fun x => x = DI r) := by
  refine does_y (X := ⟨Try.prog, tt, Try.f104.ntmps, pl104, [], [], []⟩) pok _ Try.func104 rfl rfl (Nat.le_of_ble_eq_true rfl) ?_
  refine VIf.mk (fun (h1 : (decide ((s.Sheets.length : Int) > 60)) = true) => ?_) (fun (h1 : (decide ((s.Sheets.length : Int) > 60)) = false) => ?_)
  · replace hm := if_t h1 hm
    cases hm
    exact RetY.le (leD.refl _)
  · replace hm := if_f h1 hm
    refine VIf.mk (fun (h2 : (decide ((s.Sightings.length : Int) > 60)) = true) => ?_) (fun (h2 : (decide ((s.Sightings.length : Int) > 60)) = false) => ?_)
    · replace hm := if_t h2 hm
      cases hm
      exact RetY.le (leD.refl _)
    · replace hm := if_f h2 hm
      obtain ⟨x3, hx4, hm⟩ := bd_some hm
      refine CallY.det (d_R02_areRoofs s.Roofs _ hx4) ?_
      refine VIf.mk (fun (h5 : (!x3) = true) => ?_) (fun (h5 : (!x3) = false) => ?_)
      · replace hm := if_t h5 hm
        cases hm
        exact RetY.le (leD.refl _)
      · replace hm := if_f h5 hm
        obtain ⟨ev88, he, hk89⟩ := bd_some hm
        refine LoopY.of (fun (lpx : Nat × Int) => match lpx with | (fu90, i12) => (⟨[(0, .agg [.lst 9 s.Sheets.length (s.Sheets.flatMap TSheet.c), .lst 3 s.Roofs.length (s.Roofs.flatMap TRoof.c), .lst 6 s.Sightings.length (s.Sightings.flatMap TSighting.c)]), (1, .own 0 0), (2, DI 0), (3, DI i12), (20, DB (!x3))], [(0, .blk [.lst 9 s.Sheets.length (s.Sheets.flatMap TSheet.c), .lst 3 s.Roofs.length (s.Roofs.flatMap TRoof.c), .lst 6 s.Sightings.length (s.Sightings.flatMap TSighting.c)] 32)], 1⟩ : Sy)) (fun lpx => loopO (m_R02_Check_L1 s) lpx.1 lpx.2 = some ev88) (fun lpx => lpx.1) (FUEL, 0) (SubY.of 1 rfl ⟨⟨_, rfl, leD.refl _⟩, ⟨_, rfl, leD.refl _⟩, ⟨_, rfl, leD.refl _⟩, ⟨_, rfl, leD.refl _⟩, ⟨_, rfl, leD.refl _⟩, trivial⟩ ⟨⟨_, rfl, leDL.refl _⟩, trivial⟩) he ?_
        rintro ⟨fu90, i12⟩ hi91
        obtain ⟨fu90, b, rfl, hm, hi91⟩ := loop_step hi91
        refine VIf.mk (fun (h92 : (decide (i12 < (s.Sheets.length : Int))) = true) => ?_) (fun (h92 : (decide (i12 < (s.Sheets.length : Int))) = false) => ?_)
        · replace hm := if_t h92 hm
          refine ⟨rfl, ?_⟩
          obtain ⟨e93, hx94, hm⟩ := bd_some hm
          refine ⟨_, el_idx (fun _ => rfl) hx94, ?_⟩
          obtain ⟨x95, hx96, hm⟩ := bd_some hm
          refine CallY.det (d_R02_CheckSheet e93 _ hx96) ?_
          refine VIf.mk (fun (h97 : (x95 != 0) = true) => ?_) (fun (h97 : (x95 != 0) = false) => ?_)
          · replace hm := if_t h97 hm
            cases hm
            cases hi91
            have hm := hk89
            cases hm
            exact RetY.le (leD.refl _)
          · replace hm := if_f h97 hm
            refine VIf.mk (fun (h98 : (decide (i12 > 0)) = true) => ?_) (fun (h98 : (decide (i12 > 0)) = false) => ?_)
            · replace hm := if_t h98 hm
              obtain ⟨e99, hx100, hm⟩ := bd_some hm
              refine ⟨_, el_idx (fun _ => rfl) hx100, ?_⟩
              obtain ⟨e101, hx102, hm⟩ := bd_some hm
              refine ⟨_, el_idx (fun _ => rfl) hx102, ?_⟩
              refine VIf.mk (fun (h103 : (decide (e99.Source ≥ e101.Source)) = true) => ?_) (fun (h103 : (decide (e99.Source ≥ e101.Source)) = false) => ?_)
              · replace hm := if_t h103 hm
                cases hm
                cases hi91
                have hm := hk89
                cases hm
                exact RetY.le (leD.refl _)
              · replace hm := if_f h103 hm
                cases hm
                exact ⟨(fu90, (W (i12 + 1))), SubY.of 1 rfl ⟨⟨_, rfl, leD.refl _⟩, ⟨_, rfl, leD.refl _⟩, ⟨_, rfl, leD.refl _⟩, ⟨_, rfl, leD.refl _⟩, ⟨_, rfl, leD.refl _⟩, trivial⟩ ⟨⟨_, rfl, leDL.refl _⟩, trivial⟩, hi91, Nat.lt_succ_self _⟩
            · replace hm := if_f h98 hm
              cases hm
              exact ⟨(fu90, (W (i12 + 1))), SubY.of 1 rfl ⟨⟨_, rfl, leD.refl _⟩, ⟨_, rfl, leD.refl _⟩, ⟨_, rfl, leD.refl _⟩, ⟨_, rfl, leD.refl _⟩, ⟨_, rfl, leD.refl _⟩, trivial⟩ ⟨⟨_, rfl, leDL.refl _⟩, trivial⟩, hi91, Nat.lt_succ_self _⟩
        · replace hm := if_f h92 hm
          cases hm
          cases hi91
          have hm := hk89
          obtain ⟨ev137, he, hk138⟩ := bd_some hm
          refine LoopY.of (fun (lpx : Nat × Int) => match lpx with | (fu139, i110) => (⟨[(0, .agg [.lst 9 s.Sheets.length (s.Sheets.flatMap TSheet.c), .lst 3 s.Roofs.length (s.Roofs.flatMap TRoof.c), .lst 6 s.Sightings.length (s.Sightings.flatMap TSighting.c)]), (1, .own 0 0), (2, DI 0), (3, DI i12), (4, DI i110), (20, DB (!x3)), (25, DB (decide (i12 < (s.Sheets.length : Int))))], [(0, .blk [.lst 9 s.Sheets.length (s.Sheets.flatMap TSheet.c), .lst 3 s.Roofs.length (s.Roofs.flatMap TRoof.c), .lst 6 s.Sightings.length (s.Sightings.flatMap TSighting.c)] 32)], 1⟩ : Sy)) (fun lpx => loopO (m_R02_Check_L2 s) lpx.1 lpx.2 = some ev137) (fun lpx => lpx.1) (FUEL, 0) (SubY.of 1 rfl ⟨⟨_, rfl, leD.refl _⟩, ⟨_, rfl, leD.refl _⟩, ⟨_, rfl, leD.refl _⟩, ⟨_, rfl, leD.refl _⟩, ⟨_, rfl, leD.refl _⟩, ⟨_, rfl, leD.refl _⟩, ⟨_, rfl, leD.refl _⟩, trivial⟩ ⟨⟨_, rfl, leDL.refl _⟩, trivial⟩) he ?_
          rintro ⟨fu139, i110⟩ hi140
          obtain ⟨fu139, b, rfl, hm, hi140⟩ := loop_step hi140
          refine VIf.mk (fun (h141 : (decide (i110 < (s.Sightings.length : Int))) = true) => ?_) (fun (h141 : (decide (i110 < (s.Sightings.length : Int))) = false) => ?_)
          · replace hm := if_t h141 hm
            refine ⟨rfl, ?_⟩
            obtain ⟨e142, hx143, hm⟩ := bd_some hm
            refine ⟨_, el_idx (fun _ => rfl) hx143, ?_⟩
            obtain ⟨x144, hx145, hm⟩ := bd_some hm
            refine CallY.det (d_R02_CheckSighting e142 _ hx145) ?_
            refine VIf.mk (fun (h146 : (x144 != 0) = true) => ?_) (fun (h146 : (x144 != 0) = false) => ?_)
            · replace hm := if_t h146 hm
              cases hm
              cases hi140
              have hm := hk138
              cases hm
              exact RetY.le (leD.refl _)
            · replace hm := if_f h146 hm
              refine VIf.mk (fun (h147 : (decide (i110 > 0)) = true) => ?_) (fun (h147 : (decide (i110 > 0)) = false) => ?_)
              · replace hm := if_t h147 hm
                obtain ⟨e148, hx149, hm⟩ := bd_some hm
                refine ⟨_, el_idx (fun _ => rfl) hx149, ?_⟩
                obtain ⟨e150, hx151, hm⟩ := bd_some hm
                refine ⟨_, el_idx (fun _ => rfl) hx151, ?_⟩
                refine VIf.mk (fun (h152 : (decide (e148.Source ≥ e150.Source)) = true) => ?_) (fun (h152 : (decide (e148.Source ≥ e150.Source)) = false) => ?_)
                · replace hm := if_t h152 hm
                  cases hm
                  cases hi140
                  have hm := hk138
                  cases hm
                  exact RetY.le (leD.refl _)
                · replace hm := if_f h152 hm
                  cases hm
                  exact ⟨(fu139, (W (i110 + 1))), SubY.of 1 rfl ⟨⟨_, rfl, leD.refl _⟩, ⟨_, rfl, leD.refl _⟩, ⟨_, rfl, leD.refl _⟩, ⟨_, rfl, leD.refl _⟩, ⟨_, rfl, leD.refl _⟩, ⟨_, rfl, leD.refl _⟩, ⟨_, rfl, leD.refl _⟩, trivial⟩ ⟨⟨_, rfl, leDL.refl _⟩, trivial⟩, hi140, Nat.lt_succ_self _⟩
              · replace hm := if_f h147 hm
                cases hm
                exact ⟨(fu139, (W (i110 + 1))), SubY.of 1 rfl ⟨⟨_, rfl, leD.refl _⟩, ⟨_, rfl, leD.refl _⟩, ⟨_, rfl, leD.refl _⟩, ⟨_, rfl, leD.refl _⟩, ⟨_, rfl, leD.refl _⟩, ⟨_, rfl, leD.refl _⟩, ⟨_, rfl, leD.refl _⟩, trivial⟩ ⟨⟨_, rfl, leDL.refl _⟩, trivial⟩, hi140, Nat.lt_succ_self _⟩
          · replace hm := if_f h141 hm
            cases hm
            cases hi140
            have hm := hk138
            cases hm
            exact RetY.le (leD.refl _)

def m_R02_asked_L1 (minutes : (List Int)) : Int → Option (Sum Int (Sum Int Int)) := fun i16 =>
  if (decide (i16 < (minutes.length : Int))) = true then
    Option.bind (idx minutes i16) fun e30 =>
    Option.bind (m_R02_isMinute e30) fun x32 =>
    if (!x32) = true then
      some (.inr (.inr 1))
    else
      if (decide (i16 > 0)) = true then
        Option.bind (idx minutes (W (i16 - 1))) fun e36 =>
        Option.bind (idx minutes i16) fun e38 =>
        if (decide (e36 > e38)) = true then
          some (.inr (.inr 1))
        else
          some (.inl (W (i16 + 1)))
      else
        some (.inl (W (i16 + 1)))
  else
    some (.inr (.inl i16))
def m_R02_asked (s : TSky) (at_ : (Int × Int)) (minutes : (List Int)) : Option Int :=
  Option.bind (m_R02_Check s) fun x1 =>
  if (x1 != 0) = true then
    some 24
  else
    Option.bind (m_R02_isNight at_.1) fun x4 =>
    if (!x4) = true then
      some 6
    else
      Option.bind (m_R02_isNight at_.2) fun x7 =>
      if (!x7) = true then
        some 6
      else
        Option.bind (loopF (m_R02_asked_L1 minutes) 0) fun e =>
        match e with
        | .inl i41 =>
          Option.bind (m_R02_inForce s at_.1 at_.2) fun x42 =>
          if (decide (x42 < 0)) = true then
            some 25
          else
            some 0
        | .inr rr45 =>
          some rr45
set_option maxRecDepth 100000 in
set_option maxHeartbeats 2000000 in
theorem d_R02_asked (s : TSky) (at_ : (Int × Int)) (minutes : (List Int)) (r : Int) (hm : m_R02_asked s at_ minutes = some r) : Does Try.prog 90 [.agg (TSky.c s), .agg [DI at_.1, DI at_.2], .lst 1 minutes.length (minutes.flatMap cI)] (fun x => x = DI r) := by
  refine does_y (X := ⟨Try.prog, tt, Try.f90.ntmps, pl90, [], [], []⟩) pok _ Try.func90 rfl rfl (Nat.le_of_ble_eq_true rfl) ?_
  obtain ⟨x1, hx2, hm⟩ := bd_some hm
  refine CallY.det (d_R02_Check s _ hx2) ?_
  refine VIf.mk (fun (h3 : (x1 != 0) = true) => ?_) (fun (h3 : (x1 != 0) = false) => ?_)
  · replace hm := if_t h3 hm
    cases hm
    exact RetY.le (leD.refl _)
  · replace hm := if_f h3 hm
    refine ⟨by decide, ?_⟩
    obtain ⟨x4, hx5, hm⟩ := bd_some hm
    refine CallY.det (d_R02_isNight at_.1 _ hx5) ?_
    refine VIf.mk (fun (h6 : (!x4) = true) => ?_) (fun (h6 : (!x4) = false) => ?_)
    · replace hm := if_t h6 hm
      cases hm
      exact RetY.le (leD.refl _)
    · replace hm := if_f h6 hm
      refine ⟨by decide, ?_⟩
      obtain ⟨x7, hx8, hm⟩ := bd_some hm
      refine CallY.det (d_R02_isNight at_.2 _ hx8) ?_
      refine VIf.mk (fun (h9 : (!x7) = true) => ?_) (fun (h9 : (!x7) = false) => ?_)
      · replace hm := if_t h9 hm
        cases hm
        exact RetY.le (leD.refl _)
      · replace hm := if_f h9 hm
        obtain ⟨ev46, he, hk47⟩ := bd_some hm
        refine LoopY.of (fun (lpx : Nat × Int) => match lpx with | (fu48, i16) => (⟨[(0, .agg [.lst 9 s.Sheets.length (s.Sheets.flatMap TSheet.c), .lst 3 s.Roofs.length (s.Roofs.flatMap TRoof.c), .lst 6 s.Sightings.length (s.Sightings.flatMap TSighting.c)]), (1, .agg [DI at_.1, DI at_.2]), (2, .lst 1 minutes.length (minutes.flatMap cI)), (3, .own 0 0), (4, .own 1 0), (6, DI 0), (7, DI i16), (10, DB (x1 != 0)), (20, DB (!x7))], [(0, .blk [.lst 9 s.Sheets.length (s.Sheets.flatMap TSheet.c), .lst 3 s.Roofs.length (s.Roofs.flatMap TRoof.c), .lst 6 s.Sightings.length (s.Sightings.flatMap TSighting.c)] 32), (1, .blk [DI at_.1, DI at_.2] 95)], 2⟩ : Sy)) (fun lpx => loopO (m_R02_asked_L1 minutes) lpx.1 lpx.2 = some ev46) (fun lpx => lpx.1) (FUEL, 0) (SubY.of 2 rfl ⟨⟨_, rfl, leD.refl _⟩, ⟨_, rfl, leD.refl _⟩, ⟨_, rfl, leD.refl _⟩, ⟨_, rfl, leD.refl _⟩, ⟨_, rfl, leD.refl _⟩, ⟨_, rfl, leD.refl _⟩, ⟨_, rfl, leD.refl _⟩, ⟨_, rfl, leD.refl _⟩, ⟨_, rfl, leD.refl _⟩, trivial⟩ ⟨⟨_, rfl, leDL.refl _⟩, ⟨_, rfl, leDL.refl _⟩, trivial⟩) he ?_
        rintro ⟨fu48, i16⟩ hi49
        obtain ⟨fu48, b, rfl, hm, hi49⟩ := loop_step hi49
        refine VIf.mk (fun (h50 : (decide (i16 < (minutes.length : Int))) = true) => ?_) (fun (h50 : (decide (i16 < (minutes.length : Int))) = false) => ?_)
        · replace hm := if_t h50 hm
          refine ⟨rfl, ?_⟩
          obtain ⟨e51, hx52, hm⟩ := bd_some hm
          refine ⟨_, el_idx (fun _ => rfl) hx52, ?_⟩
          obtain ⟨x53, hx54, hm⟩ := bd_some hm
          refine CallY.det (d_R02_isMinute e51 _ hx54) ?_
          refine VIf.mk (fun (h55 : (!x53) = true) => ?_) (fun (h55 : (!x53) = false) => ?_)
          · replace hm := if_t h55 hm
            cases hm
            cases hi49
            have hm := hk47
            cases hm
            exact RetY.le (leD.refl _)
          · replace hm := if_f h55 hm
            refine VIf.mk (fun (h56 : (decide (i16 > 0)) = true) => ?_) (fun (h56 : (decide (i16 > 0)) = false) => ?_)
            · replace hm := if_t h56 hm
              obtain ⟨e57, hx58, hm⟩ := bd_some hm
              refine ⟨_, el_idx (fun _ => rfl) hx58, ?_⟩
              obtain ⟨e59, hx60, hm⟩ := bd_some hm
              refine ⟨_, el_idx (fun _ => rfl) hx60, ?_⟩
              refine VIf.mk (fun (h61 : (decide (e57 > e59)) = true) => ?_) (fun (h61 : (decide (e57 > e59)) = false) => ?_)
              · replace hm := if_t h61 hm
                cases hm
                cases hi49
                have hm := hk47
                cases hm
                exact RetY.le (leD.refl _)
              · replace hm := if_f h61 hm
                cases hm
                exact ⟨(fu48, (W (i16 + 1))), SubY.of 2 rfl ⟨⟨_, rfl, leD.refl _⟩, ⟨_, rfl, leD.refl _⟩, ⟨_, rfl, leD.refl _⟩, ⟨_, rfl, leD.refl _⟩, ⟨_, rfl, leD.refl _⟩, ⟨_, rfl, leD.refl _⟩, ⟨_, rfl, leD.refl _⟩, ⟨_, rfl, leD.refl _⟩, ⟨_, rfl, leD.refl _⟩, trivial⟩ ⟨⟨_, rfl, leDL.refl _⟩, ⟨_, rfl, leDL.refl _⟩, trivial⟩, hi49, Nat.lt_succ_self _⟩
            · replace hm := if_f h56 hm
              cases hm
              exact ⟨(fu48, (W (i16 + 1))), SubY.of 2 rfl ⟨⟨_, rfl, leD.refl _⟩, ⟨_, rfl, leD.refl _⟩, ⟨_, rfl, leD.refl _⟩, ⟨_, rfl, leD.refl _⟩, ⟨_, rfl, leD.refl _⟩, ⟨_, rfl, leD.refl _⟩, ⟨_, rfl, leD.refl _⟩, ⟨_, rfl, leD.refl _⟩, ⟨_, rfl, leD.refl _⟩, trivial⟩ ⟨⟨_, rfl, leDL.refl _⟩, ⟨_, rfl, leDL.refl _⟩, trivial⟩, hi49, Nat.lt_succ_self _⟩
        · replace hm := if_f h50 hm
          cases hm
          cases hi49
          have hm := hk47
          refine ⟨by decide, ?_⟩
          refine ⟨by decide, ?_⟩
          obtain ⟨x62, hx63, hm⟩ := bd_some hm
          refine CallY.det (d_R02_inForce s at_.1 at_.2 _ hx63) ?_
          refine VIf.mk (fun (h64 : (decide (x62 < 0)) = true) => ?_) (fun (h64 : (decide (x62 < 0)) = false) => ?_)
          · replace hm := if_t h64 hm
            cases hm
            exact RetY.le (leD.refl _)
          · replace hm := if_f h64 hm
            cases hm
            exact RetY.le (leD.refl _)

def m_R02_sheet (s : TSheet) : Option TSheet :=
  gd ((([] : List TRow).length + s.Rows.length) * 40 ≤ 140737488355328 ∧ ([] : List TRow).length + s.Rows.length ≤ 9223372036854775807) <|
  some (⟨s.Source, s.Night, s.Known, s.Until, (([] : List TRow) ++ s.Rows), s.Off, s.Light⟩ : TSheet)
set_option maxRecDepth 100000 in
set_option maxHeartbeats 2000000 in
theorem d_R02_sheet (s : TSheet) (r : TSheet) (hm : m_R02_sheet s = some r) : Does Try.prog 124 [.agg (TSheet.c s)] (fun x => x = .agg (TSheet.c r)) := by
  refine does_y (X := ⟨Try.prog, tt, Try.f124.ntmps, [], [], [], []⟩) pok _ Try.func124 rfl rfl (Nat.le_of_ble_eq_true rfl) ?_
  refine ⟨([] : List TRow).flatMap TRow.c, ([] : List TRow).length, ⟨rfl, rfl⟩, ?_⟩
  obtain ⟨hg, hm⟩ := gd_some hm
  refine ⟨hg, _, _, flat_app (c := TRow.c) (l := (([] : List TRow) : List TRow)) (r := (s.Rows : List TRow)), ?_⟩
  cases hm
  exact RetY.le (leD.refl _)

def m_R02_InForce (s : TSky) (at_ : (Int × Int)) : Option (TSheet × Int) :=
  Option.bind (m_R02_asked s at_ []) fun x1 =>
  if (x1 != 0) = true then
    some ((⟨0, 0, 0, 0, [], (⟨0, 0⟩ : TFrac), (⟨0, 0⟩ : TRange)⟩ : TSheet), x1)
  else
    Option.bind (m_R02_inForce s at_.1 at_.2) fun x4 =>
    Option.bind (idx s.Sheets x4) fun e6 =>
    Option.bind (m_R02_sheet e6) fun x8 =>
    some (x8, 0)
set_option maxRecDepth 100000 in
set_option maxHeartbeats 2000000 in
theorem d_R02_InForce (s : TSky) (at_ : (Int × Int)) (r : (TSheet × Int)) (hm : m_R02_InForce s at_ = some r) : Does Try.prog 73 [.agg (TSky.c s), .agg [DI at_.1, DI at_.2]] (fun x => x = .tup [.agg (TSheet.c r.1), DI r.2]) := by
  refine does_y (X := ⟨Try.prog, tt, Try.f73.ntmps, pl73, [], [], []⟩) pok _ Try.func73 rfl rfl (Nat.le_of_ble_eq_true rfl) ?_
  obtain ⟨x1, hx2, hm⟩ := bd_some hm
  refine CallY.det ((d_R02_asked s at_ [] _ hx2).le ⟨leD.refl _, leD.refl _, leD.nil, trivial⟩) ?_
  refine VIf.mk (fun (h3 : (x1 != 0) = true) => ?_) (fun (h3 : (x1 != 0) = false) => ?_)
  · replace hm := if_t h3 hm
    cases hm
    exact RetY.le (⟨_, rfl, ⟨⟨_, rfl, ⟨leD.refl _, leD.refl _, leD.refl _, leD.refl _, leD.nil, leD.refl _, leD.refl _, leD.refl _, leD.refl _, trivial⟩⟩, leD.refl _, trivial⟩⟩)
  · replace hm := if_f h3 hm
    refine ⟨rfl, ?_⟩
    refine ⟨by decide, ?_⟩
    refine ⟨by decide, ?_⟩
    obtain ⟨x4, hx5, hm⟩ := bd_some hm
    refine CallY.det (d_R02_inForce s at_.1 at_.2 _ hx5) ?_
    obtain ⟨e6, hx7, hm⟩ := bd_some hm
    refine ⟨_, el_idx (fun _ => rfl) hx7, ?_⟩
    obtain ⟨x8, hx9, hm⟩ := bd_some hm
    refine CallY.det (d_R02_sheet e6 _ hx9) ?_
    cases hm
    exact RetY.le (leD.refl _)

def m_L02_truth (r_ : TRaw) (night : Int) : Option (TSky × TSheet × Bool) :=
  Option.bind (m_R02_Honest r_) fun x1 =>
  Option.bind (m_R02_Made x1) fun x3 =>
  Option.bind (m_R02_InForce x3 (night, 20)) fun ⟨x5, x6⟩ =>
  some (x3, x5, (x6 == 0))
set_option maxRecDepth 100000 in
set_option maxHeartbeats 2000000 in
theorem d_L02_truth (r_ : TRaw) (night : Int) (r : (TSky × TSheet × Bool)) (hm : m_L02_truth r_ night = some r) : Does Try.prog 27 [.agg (TRaw.c r_), DI night] (fun x => x = .tup [.agg (TSky.c r.1), .agg (TSheet.c r.2.1), DB r.2.2]) := by
  refine does_y (X := ⟨Try.prog, tt, Try.f27.ntmps, pl27, [], [], []⟩) pok _ Try.func27 rfl rfl (Nat.le_of_ble_eq_true rfl) ?_
  obtain ⟨x1, hx2, hm⟩ := bd_some hm
  refine CallY.det (d_R02_Honest r_ _ hx2) ?_
  obtain ⟨x3, hx4, hm⟩ := bd_some hm
  refine CallY.det (d_R02_Made x1 _ hx4) ?_
  obtain ⟨⟨x5, x6⟩, hx7, hm⟩ := bd_some hm
  refine CallY.det (d_R02_InForce x3 (night, 20) _ hx7) ?_
  refine ⟨rfl, ?_⟩
  cases hm
  exact RetY.le (leD.refl _)

def m_moon_has (s : TSlip) (d : TFrac) : Option Bool :=
  Option.bind (m_moon_compare d s.Lo) fun x1 =>
  if (decide (x1 > 0)) = true then
    Option.bind (m_moon_compare d s.Hi) fun x4 =>
    some (decide (x4 ≤ 0))
  else
    if (x1 == 0) = true then
      if (!s.Open) = true then
        Option.bind (m_moon_compare d s.Hi) fun x8 =>
        some (decide (x8 ≤ 0))
      else
        some false
    else
      some false
set_option maxRecDepth 100000 in
set_option maxHeartbeats 2000000 in
theorem d_moon_has (s : TSlip) (d : TFrac) (r : Bool) (hm : m_moon_has s d = some r) : Does Try.prog 74 [.agg (TSlip.c s), .agg (TFrac.c d)] (fun x => x = DB r) := by
  refine does_y (X := ⟨Try.prog, tt, Try.f74.ntmps, [], [], [], []⟩) pok _ Try.func74 rfl rfl (Nat.le_of_ble_eq_true rfl) ?_
  obtain ⟨x1, hx2, hm⟩ := bd_some hm
  refine CallY.det (d_moon_compare d s.Lo _ hx2) ?_
  refine VIf.mk (fun (h3 : (decide (x1 > 0)) = true) => ?_) (fun (h3 : (decide (x1 > 0)) = false) => ?_)
  · replace hm := if_t h3 hm
    obtain ⟨x4, hx5, hm⟩ := bd_some hm
    refine CallY.det (d_moon_compare d s.Hi _ hx5) ?_
    cases hm
    exact RetY.le (leD.refl _)
  · replace hm := if_f h3 hm
    refine VIf.mk (fun (h6 : (x1 == 0) = true) => ?_) (fun (h6 : (x1 == 0) = false) => ?_)
    · replace hm := if_t h6 hm
      refine VIf.mk (fun (h7 : (!s.Open) = true) => ?_) (fun (h7 : (!s.Open) = false) => ?_)
      · replace hm := if_t h7 hm
        obtain ⟨x8, hx9, hm⟩ := bd_some hm
        refine CallY.det (d_moon_compare d s.Hi _ hx9) ?_
        cases hm
        exact RetY.le (leD.refl _)
      · replace hm := if_f h7 hm
        cases hm
        exact RetY.le (leD.refl _)
    · replace hm := if_f h6 hm
      cases hm
      exact RetY.le (leD.refl _)

def m_moon_CheckSlip (s : TSky) (night : Int) (known : Int) (off : TFrac) : Option Int :=
  Option.bind (m_moon_look s night known []) fun ⟨x1, x2⟩ =>
  optM x1 (
    if (x2 != 0) = true then
      some x2
    else
      Option.bind (m_moon_isFrac off 20000000) fun x6 =>
      if (!x6) = true then
        some 20
      else
        none) fun p4 =>
  if (x2 != 0) = true then
    some x2
  else
    Option.bind (m_moon_isFrac off 20000000) fun x10 =>
    if (!x10) = true then
      some 20
    else
      Option.bind (m_moon_has p4.slip off) fun x13 =>
      if (!x13) = true then
        some 28
      else
        some 0
set_option maxRecDepth 100000 in
set_option maxHeartbeats 2000000 in
theorem d_moon_CheckSlip (s : TSky) (night : Int) (known : Int) (off : TFrac) (r : Int) (hm : m_moon_CheckSlip s night known off = some r) : Does Try.prog 29 [.agg (TSky.c s), DI night, DI known, .agg (TFrac.c off)] (fun x => x = DI r) := by
  refine does_y (X := ⟨Try.prog, tt, Try.f29.ntmps, pl29, [], [], []⟩) pok _ Try.func29 rfl rfl (Nat.le_of_ble_eq_true rfl) ?_
  obtain ⟨⟨x1, x2⟩, hx3, hm⟩ := bd_some hm
  refine CallY.det ((d_moon_look s night known [] _ hx3).le ⟨leD.refl _, leD.refl _, leD.refl _, leD.nil, trivial⟩) ?_
  rcases x1 with _ | p4
  · replace hm := opt_none hm
    refine VIf.mk (fun (h5 : (x2 != 0) = true) => ?_) (fun (h5 : (x2 != 0) = false) => ?_)
    · replace hm := if_t h5 hm
      cases hm
      exact RetY.le (leD.refl _)
    · replace hm := if_f h5 hm
      obtain ⟨x6, hx7, hm⟩ := bd_some hm
      refine CallY.det (d_moon_isFrac off 20000000 _ hx7) ?_
      refine VIf.mk (fun (h8 : (!x6) = true) => ?_) (fun (h8 : (!x6) = false) => ?_)
      · replace hm := if_t h8 hm
        cases hm
        exact RetY.le (leD.refl _)
      · replace hm := if_f h8 hm
        refine ⟨rfl, ?_⟩
        cases hm
  · replace hm := opt_some hm
    refine VIf.mk (fun (h9 : (x2 != 0) = true) => ?_) (fun (h9 : (x2 != 0) = false) => ?_)
    · replace hm := if_t h9 hm
      cases hm
      exact RetY.le (leD.refl _)
    · replace hm := if_f h9 hm
      obtain ⟨x10, hx11, hm⟩ := bd_some hm
      refine CallY.det (d_moon_isFrac off 20000000 _ hx11) ?_
      refine VIf.mk (fun (h12 : (!x10) = true) => ?_) (fun (h12 : (!x10) = false) => ?_)
      · replace hm := if_t h12 hm
        cases hm
        exact RetY.le (leD.refl _)
      · replace hm := if_f h12 hm
        refine ⟨rfl, ?_⟩
        obtain ⟨x13, hx14, hm⟩ := bd_some hm
        refine CallY.det (d_moon_has p4.slip off _ hx14) ?_
        refine VIf.mk (fun (h15 : (!x13) = true) => ?_) (fun (h15 : (!x13) = false) => ?_)
        · replace hm := if_t h15 hm
          cases hm
          exact RetY.le (leD.refl _)
        · replace hm := if_f h15 hm
          cases hm
          exact RetY.le (leD.refl _)

def m_R02_Shines (s : TSky) (x : TSheet) (at_ : TMoon) : Option Bool :=
  Option.bind (m_R02_margin x s.Roofs at_.Minute) fun x1 =>
  Option.bind (m_R02_minus x1) fun x3 =>
  Option.bind (m_R02_sign at_.Off x3) fun x5 =>
  some (decide (x5 > 0))
set_option maxRecDepth 100000 in
set_option maxHeartbeats 2000000 in
theorem d_R02_Shines (s : TSky) (x : TSheet) (at_ : TMoon) (r : Bool) (hm : m_R02_Shines s x at_ = some r) : Does Try.prog 30 [.agg (TSky.c s), .agg (TSheet.c x), .agg (TMoon.c at_)] (fun x => x = DB r) := by
  refine does_y (X := ⟨Try.prog, tt, Try.f30.ntmps, pl30, [], [], []⟩) pok _ Try.func30 rfl rfl (Nat.le_of_ble_eq_true rfl) ?_
  refine ⟨rfl, ?_⟩
  obtain ⟨x1, hx2, hm⟩ := bd_some hm
  refine CallY.det (d_R02_margin x s.Roofs at_.Minute _ hx2) ?_
  obtain ⟨x3, hx4, hm⟩ := bd_some hm
  refine CallY.det (d_R02_minus x1 _ hx4) ?_
  obtain ⟨x5, hx6, hm⟩ := bd_some hm
  refine CallY.det (d_R02_sign at_.Off x3 _ hx6) ?_
  cases hm
  exact RetY.le (leD.refl _)

def m_moon_Light (s : TSky) (night : Int) (known : Int) (minute : Int) : Option (TRange × Int) :=
  Option.bind (m_moon_clearly s night known ([minute] : List Int)) fun ⟨x1, x2⟩ =>
  optM x1 (
    if (x2 != 0) = true then
      some ((⟨0, 0⟩ : TRange), x2)
    else
      none) fun p4 =>
  if (x2 != 0) = true then
    some ((⟨0, 0⟩ : TRange), x2)
  else
    Option.bind (m_moon_known_above p4 minute) fun x7 =>
    Option.bind (m_moon_known_light p4 x7) fun x9 =>
    some (x9, 0)
set_option maxRecDepth 100000 in
set_option maxHeartbeats 2000000 in
theorem d_moon_Light (s : TSky) (night : Int) (known : Int) (minute : Int) (r : (TRange × Int)) (hm : m_moon_Light s night known minute = some r) : Does Try.prog 31 [.agg (TSky.c s), DI night, DI known, DI minute] (fun x => x = .tup [.agg (TRange.c r.1), DI r.2]) := by
  refine does_y (X := ⟨Try.prog, tt, Try.f31.ntmps, [], [], [], []⟩) pok _ Try.func31 rfl rfl (Nat.le_of_ble_eq_true rfl) ?_
  refine ⟨([minute] : List Int).flatMap cI, ([minute] : List Int).length, ⟨rfl, rfl⟩, ?_⟩
  obtain ⟨⟨x1, x2⟩, hx3, hm⟩ := bd_some hm
  refine CallOwn.det (d_moon_clearly s night known (([minute] : List Int)) _ hx3) ?_
  rcases x1 with _ | p4
  · replace hm := opt_none hm
    refine VIf.mk (fun (h5 : (x2 != 0) = true) => ?_) (fun (h5 : (x2 != 0) = false) => ?_)
    · replace hm := if_t h5 hm
      cases hm
      exact RetY.le (leD.refl _)
    · replace hm := if_f h5 hm
      cases hm
  · replace hm := opt_some hm
    refine VIf.mk (fun (h6 : (x2 != 0) = true) => ?_) (fun (h6 : (x2 != 0) = false) => ?_)
    · replace hm := if_t h6 hm
      cases hm
      exact RetY.le (leD.refl _)
    · replace hm := if_f h6 hm
      obtain ⟨x7, hx8, hm⟩ := bd_some hm
      refine CallY.det (d_moon_known_above p4 minute _ hx8) ?_
      obtain ⟨x9, hx10, hm⟩ := bd_some hm
      refine CallY.det (d_moon_known_light p4 x7 _ hx10) ?_
      cases hm
      exact RetY.le (leD.refl _)

def m_L02_MoonTrue_L1 (x1 : Int) (x3 : TSky) (x4 : TSheet) (x10 : TFrac) (x12 : Int) (x16 : Int) : (Int × Bool × Int) → Option (Sum (Int × Bool × Int) (Sum (Int × Bool × Int) Bool)) := fun (first59, all60, t61) =>
  if (decide (t61 ≥ x12)) = true then
    Option.bind (m_R02_Shines x3 x4 (⟨x10, t61⟩ : TMoon)) fun x123 =>
    Option.bind (m_moon_Above x3 (W (5 + x1)) 20 t61) fun ⟨x125, x126⟩ =>
    Option.bind (m_moon_Light x3 (W (5 + x1)) 20 t61) fun ⟨x128, x129⟩ =>
    if x123 = true then
      if all60 = true then
        if (x126 != 0) = true then
          some (.inr (.inr false))
        else
          if (x129 != 0) = true then
            some (.inr (.inr false))
          else
            if (x125 == 1) = true then
              if (!x123) = true then
                some (.inr (.inr false))
              else
                if (x125 == 0) = true then
                  some (.inr (.inr false))
                else
                  if (decide ((W (x4.Light.Lo + x16)) < x128.Lo)) = true then
                    some (.inr (.inr false))
                  else
                    if (decide ((W (x4.Light.Lo + x16)) > x128.Hi)) = true then
                      some (.inr (.inr false))
                    else
                      some (.inl (t61, x123, (W (t61 - 1))))
            else
              if (x125 == 0) = true then
                some (.inr (.inr false))
              else
                if (decide ((W (x4.Light.Lo + x16)) < x128.Lo)) = true then
                  some (.inr (.inr false))
                else
                  if (decide ((W (x4.Light.Lo + x16)) > x128.Hi)) = true then
                    some (.inr (.inr false))
                  else
                    some (.inl (t61, x123, (W (t61 - 1))))
      else
        if (x126 != 0) = true then
          some (.inr (.inr false))
        else
          if (x129 != 0) = true then
            some (.inr (.inr false))
          else
            if (x125 == 1) = true then
              if (!x123) = true then
                some (.inr (.inr false))
              else
                if (x125 == 0) = true then
                  some (.inr (.inr false))
                else
                  if (decide ((W (x4.Light.Lo + x16)) < x128.Lo)) = true then
                    some (.inr (.inr false))
                  else
                    if (decide ((W (x4.Light.Lo + x16)) > x128.Hi)) = true then
                      some (.inr (.inr false))
                    else
                      some (.inl (t61, false, (W (t61 - 1))))
            else
              if (x125 == 0) = true then
                some (.inr (.inr false))
              else
                if (decide ((W (x4.Light.Lo + x16)) < x128.Lo)) = true then
                  some (.inr (.inr false))
                else
                  if (decide ((W (x4.Light.Lo + x16)) > x128.Hi)) = true then
                    some (.inr (.inr false))
                  else
                    some (.inl (t61, false, (W (t61 - 1))))
    else
      if all60 = true then
        if (x126 != 0) = true then
          some (.inr (.inr false))
        else
          if (x129 != 0) = true then
            some (.inr (.inr false))
          else
            if (x125 == 1) = true then
              if (!x123) = true then
                some (.inr (.inr false))
              else
                if (x125 == 0) = true then
                  if (decide (0 < x128.Lo)) = true then
                    some (.inr (.inr false))
                  else
                    if (decide (0 > x128.Hi)) = true then
                      some (.inr (.inr false))
                    else
                      some (.inl (first59, x123, (W (t61 - 1))))
                else
                  if (decide (0 < x128.Lo)) = true then
                    some (.inr (.inr false))
                  else
                    if (decide (0 > x128.Hi)) = true then
                      some (.inr (.inr false))
                    else
                      some (.inl (first59, x123, (W (t61 - 1))))
            else
              if (x125 == 0) = true then
                if (decide (0 < x128.Lo)) = true then
                  some (.inr (.inr false))
                else
                  if (decide (0 > x128.Hi)) = true then
                    some (.inr (.inr false))
                  else
                    some (.inl (first59, x123, (W (t61 - 1))))
              else
                if (decide (0 < x128.Lo)) = true then
                  some (.inr (.inr false))
                else
                  if (decide (0 > x128.Hi)) = true then
                    some (.inr (.inr false))
                  else
                    some (.inl (first59, x123, (W (t61 - 1))))
      else
        if (x126 != 0) = true then
          some (.inr (.inr false))
        else
          if (x129 != 0) = true then
            some (.inr (.inr false))
          else
            if (x125 == 1) = true then
              if (!x123) = true then
                some (.inr (.inr false))
              else
                if (x125 == 0) = true then
                  if (decide (0 < x128.Lo)) = true then
                    some (.inr (.inr false))
                  else
                    if (decide (0 > x128.Hi)) = true then
                      some (.inr (.inr false))
                    else
                      some (.inl (first59, false, (W (t61 - 1))))
                else
                  if (decide (0 < x128.Lo)) = true then
                    some (.inr (.inr false))
                  else
                    if (decide (0 > x128.Hi)) = true then
                      some (.inr (.inr false))
                    else
                      some (.inl (first59, false, (W (t61 - 1))))
            else
              if (x125 == 0) = true then
                if (decide (0 < x128.Lo)) = true then
                  some (.inr (.inr false))
                else
                  if (decide (0 > x128.Hi)) = true then
                    some (.inr (.inr false))
                  else
                    some (.inl (first59, false, (W (t61 - 1))))
              else
                if (decide (0 < x128.Lo)) = true then
                  some (.inr (.inr false))
                else
                  if (decide (0 > x128.Hi)) = true then
                    some (.inr (.inr false))
                  else
                    some (.inl (first59, false, (W (t61 - 1))))
  else
    some (.inr (.inl (first59, all60, t61)))
def m_L02_MoonTrue (r_ : TRaw) (n : (Int × Int × Int)) (bright : Int) : Option Bool :=
  Option.bind (m_R02_Mod n.1 2) fun x1 =>
  Option.bind (m_L02_truth r_ (W (5 + x1))) fun ⟨x3, x4, x5⟩ =>
  if (!x5) = true then
    Option.bind (m_L02_sane ) fun x8 =>
    some x8
  else
    Option.bind (m_R02_True x4 r_.Off) fun x10 =>
    Option.bind (m_R02_Mod n.2.1 1300) fun x12 =>
    Option.bind (m_R02_Mod n.2.2 140) fun x14 =>
    Option.bind (m_R02_Mod bright (W ((W (x4.Light.Hi - x4.Light.Lo)) + 1))) fun x16 =>
    Option.bind (m_moon_Conflict x3 (W (5 + x1)) 20) fun ⟨x18, x19⟩ =>
    if (x19 != 27) = true then
      some false
    else
      Option.bind (m_moon_CheckSlip x3 (W (5 + x1)) 20 x10) fun x22 =>
      if (x22 != 0) = true then
        some false
      else
        Option.bind (loopF (m_L02_MoonTrue_L1 x1 x3 x4 x10 x12 x16) (1440, true, (W (x12 + x14)))) fun e =>
        match e with
        | .inl (first182, all183, t184) =>
          if all183 = true then
            Option.bind (m_moon_Whole x3 (W (5 + x1)) 20 x12 (W (x12 + x14))) fun ⟨x186, x187⟩ =>
            Option.bind (m_moon_Rises x3 (W (5 + x1)) 20 x12 (W (x12 + x14))) fun ⟨x189, x190⟩ =>
            if (x187 == 0) = true then
              if (x190 == 0) = true then
                if (decide (x186.Lo ≤ (W (x4.Light.Lo + x16)))) = true then
                  if (decide ((W (x4.Light.Lo + x16)) ≤ x186.Hi)) = true then
                    if (decide (x189.Lo ≤ first182)) = true then
                      if (decide (first182 ≤ x189.Hi)) = true then
                        Option.bind (m_L02_sane ) fun x198 =>
                        some x198
                      else
                        some false
                    else
                      some false
                  else
                    some false
                else
                  some false
              else
                some false
            else
              some false
          else
            Option.bind (m_moon_Whole x3 (W (5 + x1)) 20 x12 (W (x12 + x14))) fun ⟨x200, x201⟩ =>
            Option.bind (m_moon_Rises x3 (W (5 + x1)) 20 x12 (W (x12 + x14))) fun ⟨x203, x204⟩ =>
            if (x201 == 0) = true then
              if (x204 == 0) = true then
                if (decide (x200.Lo ≤ 0)) = true then
                  if (decide (0 ≤ x200.Hi)) = true then
                    if (decide (x203.Lo ≤ first182)) = true then
                      if (decide (first182 ≤ x203.Hi)) = true then
                        Option.bind (m_L02_sane ) fun x212 =>
                        some x212
                      else
                        some false
                    else
                      some false
                  else
                    some false
                else
                  some false
              else
                some false
            else
              some false
        | .inr rr214 =>
          some rr214
set_option maxRecDepth 100000 in
set_option maxHeartbeats 2000000 in
theorem d_L02_MoonTrue (r_ : TRaw) (n : (Int × Int × Int)) (bright : Int) (r : Bool) (hm : m_L02_MoonTrue r_ n bright = some r) : Does Try.prog 6 [.agg (TRaw.c r_), .agg [DI n.1, DI n.2.1, DI n.2.2], DI bright] (fun x => x = DB r) := by
  refine does_y (X := ⟨Try.prog, tt, Try.f6.ntmps, pl6, [], [], []⟩) pok _ Try.func6 rfl rfl (Nat.le_of_ble_eq_true rfl) ?_
  refine ⟨by decide, ?_⟩
  obtain ⟨x1, hx2, hm⟩ := bd_some hm
  refine CallY.det (d_R02_Mod n.1 2 _ hx2) ?_
  obtain ⟨⟨x3, x4, x5⟩, hx6, hm⟩ := bd_some hm
  refine CallY.det (d_L02_truth r_ (W (5 + x1)) _ hx6) ?_
  refine VIf.mk (fun (h7 : (!x5) = true) => ?_) (fun (h7 : (!x5) = false) => ?_)
  · replace hm := if_t h7 hm
    obtain ⟨x8, hx9, hm⟩ := bd_some hm
    refine CallY.det (d_L02_sane  _ hx9) ?_
    cases hm
    exact RetY.le (leD.refl _)
  · replace hm := if_f h7 hm
    obtain ⟨x10, hx11, hm⟩ := bd_some hm
    refine CallY.det (d_R02_True x4 r_.Off _ hx11) ?_
    refine ⟨by decide, ?_⟩
    obtain ⟨x12, hx13, hm⟩ := bd_some hm
    refine CallY.det (d_R02_Mod n.2.1 1300 _ hx13) ?_
    refine ⟨by decide, ?_⟩
    obtain ⟨x14, hx15, hm⟩ := bd_some hm
    refine CallY.det (d_R02_Mod n.2.2 140 _ hx15) ?_
    refine ⟨rfl, ?_⟩
    obtain ⟨x16, hx17, hm⟩ := bd_some hm
    refine CallY.det (d_R02_Mod bright (W ((W (x4.Light.Hi - x4.Light.Lo)) + 1)) _ hx17) ?_
    obtain ⟨⟨x18, x19⟩, hx20, hm⟩ := bd_some hm
    refine CallY.det (d_moon_Conflict x3 (W (5 + x1)) 20 _ hx20) ?_
    refine VIf.mk (fun (h21 : (x19 != 27) = true) => ?_) (fun (h21 : (x19 != 27) = false) => ?_)
    · replace hm := if_t h21 hm
      cases hm
      exact RetY.le (leD.refl _)
    · replace hm := if_f h21 hm
      obtain ⟨x22, hx23, hm⟩ := bd_some hm
      refine CallY.det (d_moon_CheckSlip x3 (W (5 + x1)) 20 x10 _ hx23) ?_
      refine VIf.mk (fun (h24 : (x22 != 0) = true) => ?_) (fun (h24 : (x22 != 0) = false) => ?_)
      · replace hm := if_t h24 hm
        cases hm
        exact RetY.le (leD.refl _)
      · replace hm := if_f h24 hm
        obtain ⟨ev215, he, hk216⟩ := bd_some hm
        refine LoopY.of (fun (lpx : Nat × (Int × Bool × Int)) => match lpx with | (fu217, first59, all60, t61) => (⟨[(0, .agg [.lst 1 r_.Rows.length (r_.Rows.flatMap (fun (x : (List (Int × Int × Int × Int))) => [.lst 4 x.length (x.flatMap (fun (x : (Int × Int × Int × Int)) => [DI x.1, DI x.2.1, DI x.2.2.1, DI x.2.2.2]))])), .lst 4 r_.Sheets.length (r_.Sheets.flatMap (fun (x : (Int × Int × Int × Int)) => [DI x.1, DI x.2.1, DI x.2.2.1, DI x.2.2.2])), .lst 3 r_.Roofs.length (r_.Roofs.flatMap (fun (x : (Int × Int × Int)) => [DI x.1, DI x.2.1, DI x.2.2])), .lst 4 r_.Sightings.length (r_.Sightings.flatMap (fun (x : (Int × Int × Int × Int)) => [DI x.1, DI x.2.1, DI x.2.2.1, DI x.2.2.2])), DI r_.Off]), (1, .agg [DI n.1, DI n.2.1, DI n.2.2]), (2, DI bright), (3, .own 0 0), (4, .own 1 0), (6, DB false), (7, DI (W (5 + x1))), (8, .own 2 0), (9, .own 3 0), (10, DB x5), (11, .own 4 0), (12, DI x12), (13, DI (W (x12 + x14))), (14, DI (W (x4.Light.Lo + x16))), (16, DI x19), (17, DI first59), (18, DB all60), (19, DI t61), (43, DB (!x5)), (85, DB (x22 != 0))], [(0, .blk [.lst 1 r_.Rows.length (r_.Rows.flatMap (fun (x : (List (Int × Int × Int × Int))) => [.lst 4 x.length (x.flatMap (fun (x : (Int × Int × Int × Int)) => [DI x.1, DI x.2.1, DI x.2.2.1, DI x.2.2.2]))])), .lst 4 r_.Sheets.length (r_.Sheets.flatMap (fun (x : (Int × Int × Int × Int)) => [DI x.1, DI x.2.1, DI x.2.2.1, DI x.2.2.2])), .lst 3 r_.Roofs.length (r_.Roofs.flatMap (fun (x : (Int × Int × Int)) => [DI x.1, DI x.2.1, DI x.2.2])), .lst 4 r_.Sightings.length (r_.Sightings.flatMap (fun (x : (Int × Int × Int × Int)) => [DI x.1, DI x.2.1, DI x.2.2.1, DI x.2.2.2])), DI r_.Off] 26), (1, .blk [DI n.1, DI n.2.1, DI n.2.2] 27), (2, .blk [.lst 9 x3.Sheets.length (x3.Sheets.flatMap TSheet.c), .lst 3 x3.Roofs.length (x3.Roofs.flatMap TRoof.c), .lst 6 x3.Sightings.length (x3.Sightings.flatMap TSighting.c)] 32), (3, .blk [DI x4.Source, DI x4.Night, DI x4.Known, DI x4.Until, .lst 5 x4.Rows.length (x4.Rows.flatMap TRow.c), DI x4.Off.Num, DI x4.Off.Den, DI x4.Light.Lo, DI x4.Light.Hi] 41), (4, .blk [DI x10.Num, DI x10.Den] 37)], 5⟩ : Sy)) (fun lpx => loopO (m_L02_MoonTrue_L1 x1 x3 x4 x10 x12 x16) lpx.1 lpx.2 = some ev215) (fun lpx => lpx.1) (FUEL, (1440, true, (W (x12 + x14)))) (SubY.of 5 rfl ⟨⟨_, rfl, leD.refl _⟩, ⟨_, rfl, leD.refl _⟩, ⟨_, rfl, leD.refl _⟩, ⟨_, rfl, leD.refl _⟩, ⟨_, rfl, leD.refl _⟩, ⟨_, rfl, leD.refl _⟩, ⟨_, rfl, leD.refl _⟩, ⟨_, rfl, leD.refl _⟩, ⟨_, rfl, leD.refl _⟩, ⟨_, rfl, leD.refl _⟩, ⟨_, rfl, leD.refl _⟩, ⟨_, rfl, leD.refl _⟩, ⟨_, rfl, leD.refl _⟩, ⟨_, rfl, leD.refl _⟩, ⟨_, rfl, leD.refl _⟩, ⟨_, rfl, leD.refl _⟩, ⟨_, rfl, leD.refl _⟩, ⟨_, rfl, leD.refl _⟩, ⟨_, rfl, leD.refl _⟩, ⟨_, rfl, leD.refl _⟩, trivial⟩ ⟨⟨_, rfl, leDL.refl _⟩, ⟨_, rfl, leDL.refl _⟩, ⟨_, rfl, leDL.refl _⟩, ⟨_, rfl, leDL.refl _⟩, ⟨_, rfl, leDL.refl _⟩, trivial⟩) he ?_
        rintro ⟨fu217, first59, all60, t61⟩ hi218
        obtain ⟨fu217, b, rfl, hm, hi218⟩ := loop_step hi218
        refine VIf.mk (fun (h219 : (decide (t61 ≥ x12)) = true) => ?_) (fun (h219 : (decide (t61 ≥ x12)) = false) => ?_)
        · replace hm := if_t h219 hm
          obtain ⟨x220, hx221, hm⟩ := bd_some hm
          refine CallY.det (d_R02_Shines x3 x4 ((⟨x10, t61⟩ : TMoon)) _ hx221) ?_
          obtain ⟨⟨x222, x223⟩, hx224, hm⟩ := bd_some hm
          refine CallY.det (d_moon_Above x3 (W (5 + x1)) 20 t61 _ hx224) ?_
          obtain ⟨⟨x225, x226⟩, hx227, hm⟩ := bd_some hm
          refine CallY.det (d_moon_Light x3 (W (5 + x1)) 20 t61 _ hx227) ?_
          refine VIf.mk (fun (h228 : x220 = true) => ?_) (fun (h228 : x220 = false) => ?_)
          · replace hm := if_t h228 hm
            refine VIf.mk (fun (h229 : all60 = true) => ?_) (fun (h229 : all60 = false) => ?_)
            · replace hm := if_t h229 hm
              refine VIf.mk (fun (h230 : (x223 != 0) = true) => ?_) (fun (h230 : (x223 != 0) = false) => ?_)
              · replace hm := if_t h230 hm
                cases hm
                cases hi218
                have hm := hk216
                cases hm
                exact RetY.le (leD.refl _)
              · replace hm := if_f h230 hm
                refine VIf.mk (fun (h231 : (x226 != 0) = true) => ?_) (fun (h231 : (x226 != 0) = false) => ?_)
                · replace hm := if_t h231 hm
                  cases hm
                  cases hi218
                  have hm := hk216
                  cases hm
                  exact RetY.le (leD.refl _)
                · replace hm := if_f h231 hm
                  refine VIf.mk (fun (h232 : (x222 == 1) = true) => ?_) (fun (h232 : (x222 == 1) = false) => ?_)
                  · replace hm := if_t h232 hm
                    refine VIf.mk (fun (h233 : (!x220) = true) => ?_) (fun (h233 : (!x220) = false) => ?_)
                    · replace hm := if_t h233 hm
                      cases hm
                      cases hi218
                      have hm := hk216
                      cases hm
                      exact RetY.le (leD.refl _)
                    · replace hm := if_f h233 hm
                      refine VIf.mk (fun (h234 : (x222 == 0) = true) => ?_) (fun (h234 : (x222 == 0) = false) => ?_)
                      · replace hm := if_t h234 hm
                        refine VIf.t h228 ?_
                        cases hm
                        cases hi218
                        have hm := hk216
                        cases hm
                        exact RetY.le (leD.refl _)
                      · replace hm := if_f h234 hm
                        refine VIf.mk (fun (h235 : (decide ((W (x4.Light.Lo + x16)) < x225.Lo)) = true) => ?_) (fun (h235 : (decide ((W (x4.Light.Lo + x16)) < x225.Lo)) = false) => ?_)
                        · replace hm := if_t h235 hm
                          cases hm
                          cases hi218
                          have hm := hk216
                          cases hm
                          exact RetY.le (leD.refl _)
                        · replace hm := if_f h235 hm
                          refine VIf.mk (fun (h236 : (decide ((W (x4.Light.Lo + x16)) > x225.Hi)) = true) => ?_) (fun (h236 : (decide ((W (x4.Light.Lo + x16)) > x225.Hi)) = false) => ?_)
                          · replace hm := if_t h236 hm
                            cases hm
                            cases hi218
                            have hm := hk216
                            cases hm
                            exact RetY.le (leD.refl _)
                          · replace hm := if_f h236 hm
                            cases hm
                            exact ⟨(fu217, (t61, x220, (W (t61 - 1)))), SubY.of 5 rfl ⟨⟨_, rfl, leD.refl _⟩, ⟨_, rfl, leD.refl _⟩, ⟨_, rfl, leD.refl _⟩, ⟨_, rfl, leD.refl _⟩, ⟨_, rfl, leD.refl _⟩, ⟨_, rfl, leD.refl _⟩, ⟨_, rfl, leD.refl _⟩, ⟨_, rfl, leD.refl _⟩, ⟨_, rfl, leD.refl _⟩, ⟨_, rfl, leD.refl _⟩, ⟨_, rfl, leD.refl _⟩, ⟨_, rfl, leD.refl _⟩, ⟨_, rfl, leD.refl _⟩, ⟨_, rfl, leD.refl _⟩, ⟨_, rfl, leD.refl _⟩, ⟨_, rfl, leD.refl _⟩, ⟨_, rfl, leD.refl _⟩, ⟨_, rfl, leD.refl _⟩, ⟨_, rfl, leD.refl _⟩, ⟨_, rfl, leD.refl _⟩, trivial⟩ ⟨⟨_, rfl, leDL.refl _⟩, ⟨_, rfl, leDL.refl _⟩, ⟨_, rfl, leDL.refl _⟩, ⟨_, rfl, leDL.refl _⟩, ⟨_, rfl, leDL.refl _⟩, trivial⟩, hi218, Nat.lt_succ_self _⟩
                  · replace hm := if_f h232 hm
                    refine VIf.mk (fun (h237 : (x222 == 0) = true) => ?_) (fun (h237 : (x222 == 0) = false) => ?_)
                    · replace hm := if_t h237 hm
                      refine VIf.t h228 ?_
                      cases hm
                      cases hi218
                      have hm := hk216
                      cases hm
                      exact RetY.le (leD.refl _)
                    · replace hm := if_f h237 hm
                      refine VIf.mk (fun (h238 : (decide ((W (x4.Light.Lo + x16)) < x225.Lo)) = true) => ?_) (fun (h238 : (decide ((W (x4.Light.Lo + x16)) < x225.Lo)) = false) => ?_)
                      · replace hm := if_t h238 hm
                        cases hm
                        cases hi218
                        have hm := hk216
                        cases hm
                        exact RetY.le (leD.refl _)
                      · replace hm := if_f h238 hm
                        refine VIf.mk (fun (h239 : (decide ((W (x4.Light.Lo + x16)) > x225.Hi)) = true) => ?_) (fun (h239 : (decide ((W (x4.Light.Lo + x16)) > x225.Hi)) = false) => ?_)
                        · replace hm := if_t h239 hm
                          cases hm
                          cases hi218
                          have hm := hk216
                          cases hm
                          exact RetY.le (leD.refl _)
                        · replace hm := if_f h239 hm
                          cases hm
                          exact ⟨(fu217, (t61, x220, (W (t61 - 1)))), SubY.of 5 rfl ⟨⟨_, rfl, leD.refl _⟩, ⟨_, rfl, leD.refl _⟩, ⟨_, rfl, leD.refl _⟩, ⟨_, rfl, leD.refl _⟩, ⟨_, rfl, leD.refl _⟩, ⟨_, rfl, leD.refl _⟩, ⟨_, rfl, leD.refl _⟩, ⟨_, rfl, leD.refl _⟩, ⟨_, rfl, leD.refl _⟩, ⟨_, rfl, leD.refl _⟩, ⟨_, rfl, leD.refl _⟩, ⟨_, rfl, leD.refl _⟩, ⟨_, rfl, leD.refl _⟩, ⟨_, rfl, leD.refl _⟩, ⟨_, rfl, leD.refl _⟩, ⟨_, rfl, leD.refl _⟩, ⟨_, rfl, leD.refl _⟩, ⟨_, rfl, leD.refl _⟩, ⟨_, rfl, leD.refl _⟩, ⟨_, rfl, leD.refl _⟩, trivial⟩ ⟨⟨_, rfl, leDL.refl _⟩, ⟨_, rfl, leDL.refl _⟩, ⟨_, rfl, leDL.refl _⟩, ⟨_, rfl, leDL.refl _⟩, ⟨_, rfl, leDL.refl _⟩, trivial⟩, hi218, Nat.lt_succ_self _⟩
            · replace hm := if_f h229 hm
              refine VIf.mk (fun (h240 : (x223 != 0) = true) => ?_) (fun (h240 : (x223 != 0) = false) => ?_)
              · replace hm := if_t h240 hm
                cases hm
                cases hi218
                have hm := hk216
                cases hm
                exact RetY.le (leD.refl _)
              · replace hm := if_f h240 hm
                refine VIf.mk (fun (h241 : (x226 != 0) = true) => ?_) (fun (h241 : (x226 != 0) = false) => ?_)
                · replace hm := if_t h241 hm
                  cases hm
                  cases hi218
                  have hm := hk216
                  cases hm
                  exact RetY.le (leD.refl _)
                · replace hm := if_f h241 hm
                  refine VIf.mk (fun (h242 : (x222 == 1) = true) => ?_) (fun (h242 : (x222 == 1) = false) => ?_)
                  · replace hm := if_t h242 hm
                    refine VIf.mk (fun (h243 : (!x220) = true) => ?_) (fun (h243 : (!x220) = false) => ?_)
                    · replace hm := if_t h243 hm
                      cases hm
                      cases hi218
                      have hm := hk216
                      cases hm
                      exact RetY.le (leD.refl _)
                    · replace hm := if_f h243 hm
                      refine VIf.mk (fun (h244 : (x222 == 0) = true) => ?_) (fun (h244 : (x222 == 0) = false) => ?_)
                      · replace hm := if_t h244 hm
                        refine VIf.t h228 ?_
                        cases hm
                        cases hi218
                        have hm := hk216
                        cases hm
                        exact RetY.le (leD.refl _)
                      · replace hm := if_f h244 hm
                        refine VIf.mk (fun (h245 : (decide ((W (x4.Light.Lo + x16)) < x225.Lo)) = true) => ?_) (fun (h245 : (decide ((W (x4.Light.Lo + x16)) < x225.Lo)) = false) => ?_)
                        · replace hm := if_t h245 hm
                          cases hm
                          cases hi218
                          have hm := hk216
                          cases hm
                          exact RetY.le (leD.refl _)
                        · replace hm := if_f h245 hm
                          refine VIf.mk (fun (h246 : (decide ((W (x4.Light.Lo + x16)) > x225.Hi)) = true) => ?_) (fun (h246 : (decide ((W (x4.Light.Lo + x16)) > x225.Hi)) = false) => ?_)
                          · replace hm := if_t h246 hm
                            cases hm
                            cases hi218
                            have hm := hk216
                            cases hm
                            exact RetY.le (leD.refl _)
                          · replace hm := if_f h246 hm
                            cases hm
                            exact ⟨(fu217, (t61, false, (W (t61 - 1)))), SubY.of 5 rfl ⟨⟨_, rfl, leD.refl _⟩, ⟨_, rfl, leD.refl _⟩, ⟨_, rfl, leD.refl _⟩, ⟨_, rfl, leD.refl _⟩, ⟨_, rfl, leD.refl _⟩, ⟨_, rfl, leD.refl _⟩, ⟨_, rfl, leD.refl _⟩, ⟨_, rfl, leD.refl _⟩, ⟨_, rfl, leD.refl _⟩, ⟨_, rfl, leD.refl _⟩, ⟨_, rfl, leD.refl _⟩, ⟨_, rfl, leD.refl _⟩, ⟨_, rfl, leD.refl _⟩, ⟨_, rfl, leD.refl _⟩, ⟨_, rfl, leD.refl _⟩, ⟨_, rfl, leD.refl _⟩, ⟨_, rfl, leD.refl _⟩, ⟨_, rfl, leD.refl _⟩, ⟨_, rfl, leD.refl _⟩, ⟨_, rfl, leD.refl _⟩, trivial⟩ ⟨⟨_, rfl, leDL.refl _⟩, ⟨_, rfl, leDL.refl _⟩, ⟨_, rfl, leDL.refl _⟩, ⟨_, rfl, leDL.refl _⟩, ⟨_, rfl, leDL.refl _⟩, trivial⟩, hi218, Nat.lt_succ_self _⟩
                  · replace hm := if_f h242 hm
                    refine VIf.mk (fun (h247 : (x222 == 0) = true) => ?_) (fun (h247 : (x222 == 0) = false) => ?_)
                    · replace hm := if_t h247 hm
                      refine VIf.t h228 ?_
                      cases hm
                      cases hi218
                      have hm := hk216
                      cases hm
                      exact RetY.le (leD.refl _)
                    · replace hm := if_f h247 hm
                      refine VIf.mk (fun (h248 : (decide ((W (x4.Light.Lo + x16)) < x225.Lo)) = true) => ?_) (fun (h248 : (decide ((W (x4.Light.Lo + x16)) < x225.Lo)) = false) => ?_)
                      · replace hm := if_t h248 hm
                        cases hm
                        cases hi218
                        have hm := hk216
                        cases hm
                        exact RetY.le (leD.refl _)
                      · replace hm := if_f h248 hm
                        refine VIf.mk (fun (h249 : (decide ((W (x4.Light.Lo + x16)) > x225.Hi)) = true) => ?_) (fun (h249 : (decide ((W (x4.Light.Lo + x16)) > x225.Hi)) = false) => ?_)
                        · replace hm := if_t h249 hm
                          cases hm
                          cases hi218
                          have hm := hk216
                          cases hm
                          exact RetY.le (leD.refl _)
                        · replace hm := if_f h249 hm
                          cases hm
                          exact ⟨(fu217, (t61, false, (W (t61 - 1)))), SubY.of 5 rfl ⟨⟨_, rfl, leD.refl _⟩, ⟨_, rfl, leD.refl _⟩, ⟨_, rfl, leD.refl _⟩, ⟨_, rfl, leD.refl _⟩, ⟨_, rfl, leD.refl _⟩, ⟨_, rfl, leD.refl _⟩, ⟨_, rfl, leD.refl _⟩, ⟨_, rfl, leD.refl _⟩, ⟨_, rfl, leD.refl _⟩, ⟨_, rfl, leD.refl _⟩, ⟨_, rfl, leD.refl _⟩, ⟨_, rfl, leD.refl _⟩, ⟨_, rfl, leD.refl _⟩, ⟨_, rfl, leD.refl _⟩, ⟨_, rfl, leD.refl _⟩, ⟨_, rfl, leD.refl _⟩, ⟨_, rfl, leD.refl _⟩, ⟨_, rfl, leD.refl _⟩, ⟨_, rfl, leD.refl _⟩, ⟨_, rfl, leD.refl _⟩, trivial⟩ ⟨⟨_, rfl, leDL.refl _⟩, ⟨_, rfl, leDL.refl _⟩, ⟨_, rfl, leDL.refl _⟩, ⟨_, rfl, leDL.refl _⟩, ⟨_, rfl, leDL.refl _⟩, trivial⟩, hi218, Nat.lt_succ_self _⟩
          · replace hm := if_f h228 hm
            refine VIf.mk (fun (h250 : all60 = true) => ?_) (fun (h250 : all60 = false) => ?_)
            · replace hm := if_t h250 hm
              refine VIf.mk (fun (h251 : (x223 != 0) = true) => ?_) (fun (h251 : (x223 != 0) = false) => ?_)
              · replace hm := if_t h251 hm
                cases hm
                cases hi218
                have hm := hk216
                cases hm
                exact RetY.le (leD.refl _)
              · replace hm := if_f h251 hm
                refine VIf.mk (fun (h252 : (x226 != 0) = true) => ?_) (fun (h252 : (x226 != 0) = false) => ?_)
                · replace hm := if_t h252 hm
                  cases hm
                  cases hi218
                  have hm := hk216
                  cases hm
                  exact RetY.le (leD.refl _)
                · replace hm := if_f h252 hm
                  refine VIf.mk (fun (h253 : (x222 == 1) = true) => ?_) (fun (h253 : (x222 == 1) = false) => ?_)
                  · replace hm := if_t h253 hm
                    refine VIf.mk (fun (h254 : (!x220) = true) => ?_) (fun (h254 : (!x220) = false) => ?_)
                    · replace hm := if_t h254 hm
                      cases hm
                      cases hi218
                      have hm := hk216
                      cases hm
                      exact RetY.le (leD.refl _)
                    · replace hm := if_f h254 hm
                      refine VIf.mk (fun (h255 : (x222 == 0) = true) => ?_) (fun (h255 : (x222 == 0) = false) => ?_)
                      · replace hm := if_t h255 hm
                        refine VIf.f h228 ?_
                        refine VIf.mk (fun (h256 : (decide (0 < x225.Lo)) = true) => ?_) (fun (h256 : (decide (0 < x225.Lo)) = false) => ?_)
                        · replace hm := if_t h256 hm
                          cases hm
                          cases hi218
                          have hm := hk216
                          cases hm
                          exact RetY.le (leD.refl _)
                        · replace hm := if_f h256 hm
                          refine VIf.mk (fun (h257 : (decide (0 > x225.Hi)) = true) => ?_) (fun (h257 : (decide (0 > x225.Hi)) = false) => ?_)
                          · replace hm := if_t h257 hm
                            cases hm
                            cases hi218
                            have hm := hk216
                            cases hm
                            exact RetY.le (leD.refl _)
                          · replace hm := if_f h257 hm
                            cases hm
                            exact ⟨(fu217, (first59, x220, (W (t61 - 1)))), SubY.of 5 rfl ⟨⟨_, rfl, leD.refl _⟩, ⟨_, rfl, leD.refl _⟩, ⟨_, rfl, leD.refl _⟩, ⟨_, rfl, leD.refl _⟩, ⟨_, rfl, leD.refl _⟩, ⟨_, rfl, leD.refl _⟩, ⟨_, rfl, leD.refl _⟩, ⟨_, rfl, leD.refl _⟩, ⟨_, rfl, leD.refl _⟩, ⟨_, rfl, leD.refl _⟩, ⟨_, rfl, leD.refl _⟩, ⟨_, rfl, leD.refl _⟩, ⟨_, rfl, leD.refl _⟩, ⟨_, rfl, leD.refl _⟩, ⟨_, rfl, leD.refl _⟩, ⟨_, rfl, leD.refl _⟩, ⟨_, rfl, leD.refl _⟩, ⟨_, rfl, leD.refl _⟩, ⟨_, rfl, leD.refl _⟩, ⟨_, rfl, leD.refl _⟩, trivial⟩ ⟨⟨_, rfl, leDL.refl _⟩, ⟨_, rfl, leDL.refl _⟩, ⟨_, rfl, leDL.refl _⟩, ⟨_, rfl, leDL.refl _⟩, ⟨_, rfl, leDL.refl _⟩, trivial⟩, hi218, Nat.lt_succ_self _⟩
                      · replace hm := if_f h255 hm
                        refine VIf.mk (fun (h258 : (decide (0 < x225.Lo)) = true) => ?_) (fun (h258 : (decide (0 < x225.Lo)) = false) => ?_)
                        · replace hm := if_t h258 hm
                          cases hm
                          cases hi218
                          have hm := hk216
                          cases hm
                          exact RetY.le (leD.refl _)
                        · replace hm := if_f h258 hm
                          refine VIf.mk (fun (h259 : (decide (0 > x225.Hi)) = true) => ?_) (fun (h259 : (decide (0 > x225.Hi)) = false) => ?_)
                          · replace hm := if_t h259 hm
                            cases hm
                            cases hi218
                            have hm := hk216
                            cases hm
                            exact RetY.le (leD.refl _)
                          · replace hm := if_f h259 hm
                            cases hm
                            exact ⟨(fu217, (first59, x220, (W (t61 - 1)))), SubY.of 5 rfl ⟨⟨_, rfl, leD.refl _⟩, ⟨_, rfl, leD.refl _⟩, ⟨_, rfl, leD.refl _⟩, ⟨_, rfl, leD.refl _⟩, ⟨_, rfl, leD.refl _⟩, ⟨_, rfl, leD.refl _⟩, ⟨_, rfl, leD.refl _⟩, ⟨_, rfl, leD.refl _⟩, ⟨_, rfl, leD.refl _⟩, ⟨_, rfl, leD.refl _⟩, ⟨_, rfl, leD.refl _⟩, ⟨_, rfl, leD.refl _⟩, ⟨_, rfl, leD.refl _⟩, ⟨_, rfl, leD.refl _⟩, ⟨_, rfl, leD.refl _⟩, ⟨_, rfl, leD.refl _⟩, ⟨_, rfl, leD.refl _⟩, ⟨_, rfl, leD.refl _⟩, ⟨_, rfl, leD.refl _⟩, ⟨_, rfl, leD.refl _⟩, trivial⟩ ⟨⟨_, rfl, leDL.refl _⟩, ⟨_, rfl, leDL.refl _⟩, ⟨_, rfl, leDL.refl _⟩, ⟨_, rfl, leDL.refl _⟩, ⟨_, rfl, leDL.refl _⟩, trivial⟩, hi218, Nat.lt_succ_self _⟩
                  · replace hm := if_f h253 hm
                    refine VIf.mk (fun (h260 : (x222 == 0) = true) => ?_) (fun (h260 : (x222 == 0) = false) => ?_)
                    · replace hm := if_t h260 hm
                      refine VIf.f h228 ?_
                      refine VIf.mk (fun (h261 : (decide (0 < x225.Lo)) = true) => ?_) (fun (h261 : (decide (0 < x225.Lo)) = false) => ?_)
                      · replace hm := if_t h261 hm
                        cases hm
                        cases hi218
                        have hm := hk216
                        cases hm
                        exact RetY.le (leD.refl _)
                      · replace hm := if_f h261 hm
                        refine VIf.mk (fun (h262 : (decide (0 > x225.Hi)) = true) => ?_) (fun (h262 : (decide (0 > x225.Hi)) = false) => ?_)
                        · replace hm := if_t h262 hm
                          cases hm
                          cases hi218
                          have hm := hk216
                          cases hm
                          exact RetY.le (leD.refl _)
                        · replace hm := if_f h262 hm
                          cases hm
                          exact ⟨(fu217, (first59, x220, (W (t61 - 1)))), SubY.of 5 rfl ⟨⟨_, rfl, leD.refl _⟩, ⟨_, rfl, leD.refl _⟩, ⟨_, rfl, leD.refl _⟩, ⟨_, rfl, leD.refl _⟩, ⟨_, rfl, leD.refl _⟩, ⟨_, rfl, leD.refl _⟩, ⟨_, rfl, leD.refl _⟩, ⟨_, rfl, leD.refl _⟩, ⟨_, rfl, leD.refl _⟩, ⟨_, rfl, leD.refl _⟩, ⟨_, rfl, leD.refl _⟩, ⟨_, rfl, leD.refl _⟩, ⟨_, rfl, leD.refl _⟩, ⟨_, rfl, leD.refl _⟩, ⟨_, rfl, leD.refl _⟩, ⟨_, rfl, leD.refl _⟩, ⟨_, rfl, leD.refl _⟩, ⟨_, rfl, leD.refl _⟩, ⟨_, rfl, leD.refl _⟩, ⟨_, rfl, leD.refl _⟩, trivial⟩ ⟨⟨_, rfl, leDL.refl _⟩, ⟨_, rfl, leDL.refl _⟩, ⟨_, rfl, leDL.refl _⟩, ⟨_, rfl, leDL.refl _⟩, ⟨_, rfl, leDL.refl _⟩, trivial⟩, hi218, Nat.lt_succ_self _⟩
                    · replace hm := if_f h260 hm
                      refine VIf.mk (fun (h263 : (decide (0 < x225.Lo)) = true) => ?_) (fun (h263 : (decide (0 < x225.Lo)) = false) => ?_)
                      · replace hm := if_t h263 hm
                        cases hm
                        cases hi218
                        have hm := hk216
                        cases hm
                        exact RetY.le (leD.refl _)
                      · replace hm := if_f h263 hm
                        refine VIf.mk (fun (h264 : (decide (0 > x225.Hi)) = true) => ?_) (fun (h264 : (decide (0 > x225.Hi)) = false) => ?_)
                        · replace hm := if_t h264 hm
                          cases hm
                          cases hi218
                          have hm := hk216
                          cases hm
                          exact RetY.le (leD.refl _)
                        · replace hm := if_f h264 hm
                          cases hm
                          exact ⟨(fu217, (first59, x220, (W (t61 - 1)))), SubY.of 5 rfl ⟨⟨_, rfl, leD.refl _⟩, ⟨_, rfl, leD.refl _⟩, ⟨_, rfl, leD.refl _⟩, ⟨_, rfl, leD.refl _⟩, ⟨_, rfl, leD.refl _⟩, ⟨_, rfl, leD.refl _⟩, ⟨_, rfl, leD.refl _⟩, ⟨_, rfl, leD.refl _⟩, ⟨_, rfl, leD.refl _⟩, ⟨_, rfl, leD.refl _⟩, ⟨_, rfl, leD.refl _⟩, ⟨_, rfl, leD.refl _⟩, ⟨_, rfl, leD.refl _⟩, ⟨_, rfl, leD.refl _⟩, ⟨_, rfl, leD.refl _⟩, ⟨_, rfl, leD.refl _⟩, ⟨_, rfl, leD.refl _⟩, ⟨_, rfl, leD.refl _⟩, ⟨_, rfl, leD.refl _⟩, ⟨_, rfl, leD.refl _⟩, trivial⟩ ⟨⟨_, rfl, leDL.refl _⟩, ⟨_, rfl, leDL.refl _⟩, ⟨_, rfl, leDL.refl _⟩, ⟨_, rfl, leDL.refl _⟩, ⟨_, rfl, leDL.refl _⟩, trivial⟩, hi218, Nat.lt_succ_self _⟩
            · replace hm := if_f h250 hm
              refine VIf.mk (fun (h265 : (x223 != 0) = true) => ?_) (fun (h265 : (x223 != 0) = false) => ?_)
              · replace hm := if_t h265 hm
                cases hm
                cases hi218
                have hm := hk216
                cases hm
                exact RetY.le (leD.refl _)
              · replace hm := if_f h265 hm
                refine VIf.mk (fun (h266 : (x226 != 0) = true) => ?_) (fun (h266 : (x226 != 0) = false) => ?_)
                · replace hm := if_t h266 hm
                  cases hm
                  cases hi218
                  have hm := hk216
                  cases hm
                  exact RetY.le (leD.refl _)
                · replace hm := if_f h266 hm
                  refine VIf.mk (fun (h267 : (x222 == 1) = true) => ?_) (fun (h267 : (x222 == 1) = false) => ?_)
                  · replace hm := if_t h267 hm
                    refine VIf.mk (fun (h268 : (!x220) = true) => ?_) (fun (h268 : (!x220) = false) => ?_)
                    · replace hm := if_t h268 hm
                      cases hm
                      cases hi218
                      have hm := hk216
                      cases hm
                      exact RetY.le (leD.refl _)
                    · replace hm := if_f h268 hm
                      refine VIf.mk (fun (h269 : (x222 == 0) = true) => ?_) (fun (h269 : (x222 == 0) = false) => ?_)
                      · replace hm := if_t h269 hm
                        refine VIf.f h228 ?_
                        refine VIf.mk (fun (h270 : (decide (0 < x225.Lo)) = true) => ?_) (fun (h270 : (decide (0 < x225.Lo)) = false) => ?_)
                        · replace hm := if_t h270 hm
                          cases hm
                          cases hi218
                          have hm := hk216
                          cases hm
                          exact RetY.le (leD.refl _)
                        · replace hm := if_f h270 hm
                          refine VIf.mk (fun (h271 : (decide (0 > x225.Hi)) = true) => ?_) (fun (h271 : (decide (0 > x225.Hi)) = false) => ?_)
                          · replace hm := if_t h271 hm
                            cases hm
                            cases hi218
                            have hm := hk216
                            cases hm
                            exact RetY.le (leD.refl _)
                          · replace hm := if_f h271 hm
                            cases hm
                            exact ⟨(fu217, (first59, false, (W (t61 - 1)))), SubY.of 5 rfl ⟨⟨_, rfl, leD.refl _⟩, ⟨_, rfl, leD.refl _⟩, ⟨_, rfl, leD.refl _⟩, ⟨_, rfl, leD.refl _⟩, ⟨_, rfl, leD.refl _⟩, ⟨_, rfl, leD.refl _⟩, ⟨_, rfl, leD.refl _⟩, ⟨_, rfl, leD.refl _⟩, ⟨_, rfl, leD.refl _⟩, ⟨_, rfl, leD.refl _⟩, ⟨_, rfl, leD.refl _⟩, ⟨_, rfl, leD.refl _⟩, ⟨_, rfl, leD.refl _⟩, ⟨_, rfl, leD.refl _⟩, ⟨_, rfl, leD.refl _⟩, ⟨_, rfl, leD.refl _⟩, ⟨_, rfl, leD.refl _⟩, ⟨_, rfl, leD.refl _⟩, ⟨_, rfl, leD.refl _⟩, ⟨_, rfl, leD.refl _⟩, trivial⟩ ⟨⟨_, rfl, leDL.refl _⟩, ⟨_, rfl, leDL.refl _⟩, ⟨_, rfl, leDL.refl _⟩, ⟨_, rfl, leDL.refl _⟩, ⟨_, rfl, leDL.refl _⟩, trivial⟩, hi218, Nat.lt_succ_self _⟩
                      · replace hm := if_f h269 hm
                        refine VIf.mk (fun (h272 : (decide (0 < x225.Lo)) = true) => ?_) (fun (h272 : (decide (0 < x225.Lo)) = false) => ?_)
                        · replace hm := if_t h272 hm
                          cases hm
                          cases hi218
                          have hm := hk216
                          cases hm
                          exact RetY.le (leD.refl _)
                        · replace hm := if_f h272 hm
                          refine VIf.mk (fun (h273 : (decide (0 > x225.Hi)) = true) => ?_) (fun (h273 : (decide (0 > x225.Hi)) = false) => ?_)
                          · replace hm := if_t h273 hm
                            cases hm
                            cases hi218
                            have hm := hk216
                            cases hm
                            exact RetY.le (leD.refl _)
                          · replace hm := if_f h273 hm
                            cases hm
                            exact ⟨(fu217, (first59, false, (W (t61 - 1)))), SubY.of 5 rfl ⟨⟨_, rfl, leD.refl _⟩, ⟨_, rfl, leD.refl _⟩, ⟨_, rfl, leD.refl _⟩, ⟨_, rfl, leD.refl _⟩, ⟨_, rfl, leD.refl _⟩, ⟨_, rfl, leD.refl _⟩, ⟨_, rfl, leD.refl _⟩, ⟨_, rfl, leD.refl _⟩, ⟨_, rfl, leD.refl _⟩, ⟨_, rfl, leD.refl _⟩, ⟨_, rfl, leD.refl _⟩, ⟨_, rfl, leD.refl _⟩, ⟨_, rfl, leD.refl _⟩, ⟨_, rfl, leD.refl _⟩, ⟨_, rfl, leD.refl _⟩, ⟨_, rfl, leD.refl _⟩, ⟨_, rfl, leD.refl _⟩, ⟨_, rfl, leD.refl _⟩, ⟨_, rfl, leD.refl _⟩, ⟨_, rfl, leD.refl _⟩, trivial⟩ ⟨⟨_, rfl, leDL.refl _⟩, ⟨_, rfl, leDL.refl _⟩, ⟨_, rfl, leDL.refl _⟩, ⟨_, rfl, leDL.refl _⟩, ⟨_, rfl, leDL.refl _⟩, trivial⟩, hi218, Nat.lt_succ_self _⟩
                  · replace hm := if_f h267 hm
                    refine VIf.mk (fun (h274 : (x222 == 0) = true) => ?_) (fun (h274 : (x222 == 0) = false) => ?_)
                    · replace hm := if_t h274 hm
                      refine VIf.f h228 ?_
                      refine VIf.mk (fun (h275 : (decide (0 < x225.Lo)) = true) => ?_) (fun (h275 : (decide (0 < x225.Lo)) = false) => ?_)
                      · replace hm := if_t h275 hm
                        cases hm
                        cases hi218
                        have hm := hk216
                        cases hm
                        exact RetY.le (leD.refl _)
                      · replace hm := if_f h275 hm
                        refine VIf.mk (fun (h276 : (decide (0 > x225.Hi)) = true) => ?_) (fun (h276 : (decide (0 > x225.Hi)) = false) => ?_)
                        · replace hm := if_t h276 hm
                          cases hm
                          cases hi218
                          have hm := hk216
                          cases hm
                          exact RetY.le (leD.refl _)
                        · replace hm := if_f h276 hm
                          cases hm
                          exact ⟨(fu217, (first59, false, (W (t61 - 1)))), SubY.of 5 rfl ⟨⟨_, rfl, leD.refl _⟩, ⟨_, rfl, leD.refl _⟩, ⟨_, rfl, leD.refl _⟩, ⟨_, rfl, leD.refl _⟩, ⟨_, rfl, leD.refl _⟩, ⟨_, rfl, leD.refl _⟩, ⟨_, rfl, leD.refl _⟩, ⟨_, rfl, leD.refl _⟩, ⟨_, rfl, leD.refl _⟩, ⟨_, rfl, leD.refl _⟩, ⟨_, rfl, leD.refl _⟩, ⟨_, rfl, leD.refl _⟩, ⟨_, rfl, leD.refl _⟩, ⟨_, rfl, leD.refl _⟩, ⟨_, rfl, leD.refl _⟩, ⟨_, rfl, leD.refl _⟩, ⟨_, rfl, leD.refl _⟩, ⟨_, rfl, leD.refl _⟩, ⟨_, rfl, leD.refl _⟩, ⟨_, rfl, leD.refl _⟩, trivial⟩ ⟨⟨_, rfl, leDL.refl _⟩, ⟨_, rfl, leDL.refl _⟩, ⟨_, rfl, leDL.refl _⟩, ⟨_, rfl, leDL.refl _⟩, ⟨_, rfl, leDL.refl _⟩, trivial⟩, hi218, Nat.lt_succ_self _⟩
                    · replace hm := if_f h274 hm
                      refine VIf.mk (fun (h277 : (decide (0 < x225.Lo)) = true) => ?_) (fun (h277 : (decide (0 < x225.Lo)) = false) => ?_)
                      · replace hm := if_t h277 hm
                        cases hm
                        cases hi218
                        have hm := hk216
                        cases hm
                        exact RetY.le (leD.refl _)
                      · replace hm := if_f h277 hm
                        refine VIf.mk (fun (h278 : (decide (0 > x225.Hi)) = true) => ?_) (fun (h278 : (decide (0 > x225.Hi)) = false) => ?_)
                        · replace hm := if_t h278 hm
                          cases hm
                          cases hi218
                          have hm := hk216
                          cases hm
                          exact RetY.le (leD.refl _)
                        · replace hm := if_f h278 hm
                          cases hm
                          exact ⟨(fu217, (first59, false, (W (t61 - 1)))), SubY.of 5 rfl ⟨⟨_, rfl, leD.refl _⟩, ⟨_, rfl, leD.refl _⟩, ⟨_, rfl, leD.refl _⟩, ⟨_, rfl, leD.refl _⟩, ⟨_, rfl, leD.refl _⟩, ⟨_, rfl, leD.refl _⟩, ⟨_, rfl, leD.refl _⟩, ⟨_, rfl, leD.refl _⟩, ⟨_, rfl, leD.refl _⟩, ⟨_, rfl, leD.refl _⟩, ⟨_, rfl, leD.refl _⟩, ⟨_, rfl, leD.refl _⟩, ⟨_, rfl, leD.refl _⟩, ⟨_, rfl, leD.refl _⟩, ⟨_, rfl, leD.refl _⟩, ⟨_, rfl, leD.refl _⟩, ⟨_, rfl, leD.refl _⟩, ⟨_, rfl, leD.refl _⟩, ⟨_, rfl, leD.refl _⟩, ⟨_, rfl, leD.refl _⟩, trivial⟩ ⟨⟨_, rfl, leDL.refl _⟩, ⟨_, rfl, leDL.refl _⟩, ⟨_, rfl, leDL.refl _⟩, ⟨_, rfl, leDL.refl _⟩, ⟨_, rfl, leDL.refl _⟩, trivial⟩, hi218, Nat.lt_succ_self _⟩
        · replace hm := if_f h219 hm
          cases hm
          cases hi218
          have hm := hk216
          refine VIf.mk (fun (h279 : all60 = true) => ?_) (fun (h279 : all60 = false) => ?_)
          · replace hm := if_t h279 hm
            obtain ⟨⟨x280, x281⟩, hx282, hm⟩ := bd_some hm
            refine CallY.det (d_moon_Whole x3 (W (5 + x1)) 20 x12 (W (x12 + x14)) _ hx282) ?_
            obtain ⟨⟨x283, x284⟩, hx285, hm⟩ := bd_some hm
            refine CallY.det (d_moon_Rises x3 (W (5 + x1)) 20 x12 (W (x12 + x14)) _ hx285) ?_
            refine VIf.mk (fun (h286 : (x281 == 0) = true) => ?_) (fun (h286 : (x281 == 0) = false) => ?_)
            · replace hm := if_t h286 hm
              refine VIf.mk (fun (h287 : (x284 == 0) = true) => ?_) (fun (h287 : (x284 == 0) = false) => ?_)
              · replace hm := if_t h287 hm
                refine VIf.mk (fun (h288 : (decide (x280.Lo ≤ (W (x4.Light.Lo + x16)))) = true) => ?_) (fun (h288 : (decide (x280.Lo ≤ (W (x4.Light.Lo + x16)))) = false) => ?_)
                · replace hm := if_t h288 hm
                  refine VIf.mk (fun (h289 : (decide ((W (x4.Light.Lo + x16)) ≤ x280.Hi)) = true) => ?_) (fun (h289 : (decide ((W (x4.Light.Lo + x16)) ≤ x280.Hi)) = false) => ?_)
                  · replace hm := if_t h289 hm
                    refine VIf.mk (fun (h290 : (decide (x283.Lo ≤ first59)) = true) => ?_) (fun (h290 : (decide (x283.Lo ≤ first59)) = false) => ?_)
                    · replace hm := if_t h290 hm
                      refine VIf.mk (fun (h291 : (decide (first59 ≤ x283.Hi)) = true) => ?_) (fun (h291 : (decide (first59 ≤ x283.Hi)) = false) => ?_)
                      · replace hm := if_t h291 hm
                        obtain ⟨x292, hx293, hm⟩ := bd_some hm
                        refine CallY.det (d_L02_sane  _ hx293) ?_
                        cases hm
                        exact RetY.le (leD.refl _)
                      · replace hm := if_f h291 hm
                        cases hm
                        exact RetY.le (leD.refl _)
                    · replace hm := if_f h290 hm
                      cases hm
                      exact RetY.le (leD.refl _)
                  · replace hm := if_f h289 hm
                    cases hm
                    exact RetY.le (leD.refl _)
                · replace hm := if_f h288 hm
                  cases hm
                  exact RetY.le (leD.refl _)
              · replace hm := if_f h287 hm
                cases hm
                exact RetY.le (leD.refl _)
            · replace hm := if_f h286 hm
              cases hm
              exact RetY.le (leD.refl _)
          · replace hm := if_f h279 hm
            obtain ⟨⟨x294, x295⟩, hx296, hm⟩ := bd_some hm
            refine CallY.det (d_moon_Whole x3 (W (5 + x1)) 20 x12 (W (x12 + x14)) _ hx296) ?_
            obtain ⟨⟨x297, x298⟩, hx299, hm⟩ := bd_some hm
            refine CallY.det (d_moon_Rises x3 (W (5 + x1)) 20 x12 (W (x12 + x14)) _ hx299) ?_
            refine VIf.mk (fun (h300 : (x295 == 0) = true) => ?_) (fun (h300 : (x295 == 0) = false) => ?_)
            · replace hm := if_t h300 hm
              refine VIf.mk (fun (h301 : (x298 == 0) = true) => ?_) (fun (h301 : (x298 == 0) = false) => ?_)
              · replace hm := if_t h301 hm
                refine VIf.mk (fun (h302 : (decide (x294.Lo ≤ 0)) = true) => ?_) (fun (h302 : (decide (x294.Lo ≤ 0)) = false) => ?_)
                · replace hm := if_t h302 hm
                  refine VIf.mk (fun (h303 : (decide (0 ≤ x294.Hi)) = true) => ?_) (fun (h303 : (decide (0 ≤ x294.Hi)) = false) => ?_)
                  · replace hm := if_t h303 hm
                    refine VIf.mk (fun (h304 : (decide (x297.Lo ≤ first59)) = true) => ?_) (fun (h304 : (decide (x297.Lo ≤ first59)) = false) => ?_)
                    · replace hm := if_t h304 hm
                      refine VIf.mk (fun (h305 : (decide (first59 ≤ x297.Hi)) = true) => ?_) (fun (h305 : (decide (first59 ≤ x297.Hi)) = false) => ?_)
                      · replace hm := if_t h305 hm
                        obtain ⟨x306, hx307, hm⟩ := bd_some hm
                        refine CallY.det (d_L02_sane  _ hx307) ?_
                        cases hm
                        exact RetY.le (leD.refl _)
                      · replace hm := if_f h305 hm
                        cases hm
                        exact RetY.le (leD.refl _)
                    · replace hm := if_f h304 hm
                      cases hm
                      exact RetY.le (leD.refl _)
                  · replace hm := if_f h303 hm
                    cases hm
                    exact RetY.le (leD.refl _)
                · replace hm := if_f h302 hm
                  cases hm
                  exact RetY.le (leD.refl _)
              · replace hm := if_f h301 hm
                cases hm
                exact RetY.le (leD.refl _)
            · replace hm := if_f h300 hm
              cases hm
              exact RetY.le (leD.refl _)

end Go.Proofs.Ytdhjccionnbljaa
