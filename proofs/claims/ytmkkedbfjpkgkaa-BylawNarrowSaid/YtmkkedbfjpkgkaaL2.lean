/- Functions of the program as pure Lean functions, and that calls do what these say. Printed by a program out of the given form. -/
import Derived.Test.YtmkkedbfjpkgkaaL1
set_option linter.unusedVariables false
set_option linter.unusedSimpArgs false
namespace Go.Proofs.Ytmkkedbfjpkgkaa
open Go Go.RowKit Go.Sx
set_option maxRecDepth 100000
set_option maxHeartbeats 20000000
def m_L01_BylawNarrow (b_ : TBylaw) (n : TNight) (p : TPick) : Option Bool :=
  Option.bind (m_R01_Check b_) fun x1 =>
  if (x1 != 0) = true then
    Option.bind (m_L01_sane ) fun x4 =>
    some x4
  else
    Option.bind (m_R01_CheckNight n) fun x6 =>
    if (x6 != 0) = true then
      Option.bind (m_L01_sane ) fun x9 =>
      some x9
    else
      Option.bind (m_L01_truth n p.Truth) fun x11 =>
      Option.bind (m_R01_Mod p.On 9) fun x13 =>
      Option.bind (m_R01_Mod p.Off 9) fun x15 =>
      Option.bind (m_R01_Mod p.Off 99) fun x17 =>
      if (n.Fog == 2) = true then
        Option.bind (m_R01_Mod p.On 2) fun x20 =>
        if (x20 == 0) = true then
          if x11.Fog = true then
            Option.bind (m_bylaw_Lit b_ p.Lamp n p.Known) fun ⟨x24, x25⟩ =>
            Option.bind (m_bylaw_Lit b_ p.Lamp (⟨n.No, (⟨(if (W (n.Set.Lo + x13)) < x11.Set then (W (n.Set.Lo + x13)) else x11.Set), (if (W (n.Set.Hi - x15)) > x11.Set then (W (n.Set.Hi - x15)) else x11.Set)⟩ : TRange), (⟨x11.Rise, x11.Rise⟩ : TRange), (⟨(if (W (n.Light.Lo + x17)) < x11.Light then (W (n.Light.Lo + x17)) else x11.Light), x11.Light⟩ : TRange), 1⟩ : TNight) p.Known) fun ⟨x27, x28⟩ =>
            if (x25 != x28) = true then
              some false
            else
              if (x25 == 0) = true then
                if (x24 != 2) = true then
                  if (x24 != x27) = true then
                    some false
                  else
                    Option.bind (m_bylaw_On b_ p.Lamp n p.Known) fun ⟨x34, x35⟩ =>
                    Option.bind (m_bylaw_On b_ p.Lamp (⟨n.No, (⟨(if (W (n.Set.Lo + x13)) < x11.Set then (W (n.Set.Lo + x13)) else x11.Set), (if (W (n.Set.Hi - x15)) > x11.Set then (W (n.Set.Hi - x15)) else x11.Set)⟩ : TRange), (⟨x11.Rise, x11.Rise⟩ : TRange), (⟨(if (W (n.Light.Lo + x17)) < x11.Light then (W (n.Light.Lo + x17)) else x11.Light), x11.Light⟩ : TRange), 1⟩ : TNight) p.Known) fun ⟨x37, x38⟩ =>
                    if (x35 == 0) = true then
                      if (x38 != 18) = true then
                        if (x38 != 0) = true then
                          some false
                        else
                          if (decide (x37.Lo > x34.Lo)) = true then
                            some false
                          else
                            if (decide (x37.Hi < x34.Hi)) = true then
                              some false
                            else
                              Option.bind (m_bylaw_Off b_ p.Lamp n p.Known) fun ⟨x45, x46⟩ =>
                              Option.bind (m_bylaw_Off b_ p.Lamp (⟨n.No, (⟨(if (W (n.Set.Lo + x13)) < x11.Set then (W (n.Set.Lo + x13)) else x11.Set), (if (W (n.Set.Hi - x15)) > x11.Set then (W (n.Set.Hi - x15)) else x11.Set)⟩ : TRange), (⟨x11.Rise, x11.Rise⟩ : TRange), (⟨(if (W (n.Light.Lo + x17)) < x11.Light then (W (n.Light.Lo + x17)) else x11.Light), x11.Light⟩ : TRange), 1⟩ : TNight) p.Known) fun ⟨x48, x49⟩ =>
                              if (x46 != 0) = true then
                                Option.bind (m_L01_sane ) fun x52 =>
                                some x52
                              else
                                if (x49 == 18) = true then
                                  Option.bind (m_L01_sane ) fun x55 =>
                                  some x55
                                else
                                  if (x49 == 0) = true then
                                    if (decide (x48.Lo ≤ x45.Lo)) = true then
                                      if (decide (x48.Hi ≥ x45.Hi)) = true then
                                        Option.bind (m_L01_sane ) fun x60 =>
                                        some x60
                                      else
                                        some false
                                    else
                                      some false
                                  else
                                    some false
                      else
                        Option.bind (m_bylaw_Off b_ p.Lamp n p.Known) fun ⟨x62, x63⟩ =>
                        Option.bind (m_bylaw_Off b_ p.Lamp (⟨n.No, (⟨(if (W (n.Set.Lo + x13)) < x11.Set then (W (n.Set.Lo + x13)) else x11.Set), (if (W (n.Set.Hi - x15)) > x11.Set then (W (n.Set.Hi - x15)) else x11.Set)⟩ : TRange), (⟨x11.Rise, x11.Rise⟩ : TRange), (⟨(if (W (n.Light.Lo + x17)) < x11.Light then (W (n.Light.Lo + x17)) else x11.Light), x11.Light⟩ : TRange), 1⟩ : TNight) p.Known) fun ⟨x65, x66⟩ =>
                        if (x63 != 0) = true then
                          Option.bind (m_L01_sane ) fun x69 =>
                          some x69
                        else
                          if (x66 == 18) = true then
                            Option.bind (m_L01_sane ) fun x72 =>
                            some x72
                          else
                            if (x66 == 0) = true then
                              if (decide (x65.Lo ≤ x62.Lo)) = true then
                                if (decide (x65.Hi ≥ x62.Hi)) = true then
                                  Option.bind (m_L01_sane ) fun x77 =>
                                  some x77
                                else
                                  some false
                              else
                                some false
                            else
                              some false
                    else
                      Option.bind (m_bylaw_Off b_ p.Lamp n p.Known) fun ⟨x79, x80⟩ =>
                      Option.bind (m_bylaw_Off b_ p.Lamp (⟨n.No, (⟨(if (W (n.Set.Lo + x13)) < x11.Set then (W (n.Set.Lo + x13)) else x11.Set), (if (W (n.Set.Hi - x15)) > x11.Set then (W (n.Set.Hi - x15)) else x11.Set)⟩ : TRange), (⟨x11.Rise, x11.Rise⟩ : TRange), (⟨(if (W (n.Light.Lo + x17)) < x11.Light then (W (n.Light.Lo + x17)) else x11.Light), x11.Light⟩ : TRange), 1⟩ : TNight) p.Known) fun ⟨x82, x83⟩ =>
                      if (x80 != 0) = true then
                        Option.bind (m_L01_sane ) fun x86 =>
                        some x86
                      else
                        if (x83 == 18) = true then
                          Option.bind (m_L01_sane ) fun x89 =>
                          some x89
                        else
                          if (x83 == 0) = true then
                            if (decide (x82.Lo ≤ x79.Lo)) = true then
                              if (decide (x82.Hi ≥ x79.Hi)) = true then
                                Option.bind (m_L01_sane ) fun x94 =>
                                some x94
                              else
                                some false
                            else
                              some false
                          else
                            some false
                else
                  Option.bind (m_bylaw_On b_ p.Lamp n p.Known) fun ⟨x96, x97⟩ =>
                  Option.bind (m_bylaw_On b_ p.Lamp (⟨n.No, (⟨(if (W (n.Set.Lo + x13)) < x11.Set then (W (n.Set.Lo + x13)) else x11.Set), (if (W (n.Set.Hi - x15)) > x11.Set then (W (n.Set.Hi - x15)) else x11.Set)⟩ : TRange), (⟨x11.Rise, x11.Rise⟩ : TRange), (⟨(if (W (n.Light.Lo + x17)) < x11.Light then (W (n.Light.Lo + x17)) else x11.Light), x11.Light⟩ : TRange), 1⟩ : TNight) p.Known) fun ⟨x99, x100⟩ =>
                  if (x97 == 0) = true then
                    if (x100 != 18) = true then
                      if (x100 != 0) = true then
                        some false
                      else
                        if (decide (x99.Lo > x96.Lo)) = true then
                          some false
                        else
                          if (decide (x99.Hi < x96.Hi)) = true then
                            some false
                          else
                            Option.bind (m_bylaw_Off b_ p.Lamp n p.Known) fun ⟨x107, x108⟩ =>
                            Option.bind (m_bylaw_Off b_ p.Lamp (⟨n.No, (⟨(if (W (n.Set.Lo + x13)) < x11.Set then (W (n.Set.Lo + x13)) else x11.Set), (if (W (n.Set.Hi - x15)) > x11.Set then (W (n.Set.Hi - x15)) else x11.Set)⟩ : TRange), (⟨x11.Rise, x11.Rise⟩ : TRange), (⟨(if (W (n.Light.Lo + x17)) < x11.Light then (W (n.Light.Lo + x17)) else x11.Light), x11.Light⟩ : TRange), 1⟩ : TNight) p.Known) fun ⟨x110, x111⟩ =>
                            if (x108 != 0) = true then
                              Option.bind (m_L01_sane ) fun x114 =>
                              some x114
                            else
                              if (x111 == 18) = true then
                                Option.bind (m_L01_sane ) fun x117 =>
                                some x117
                              else
                                if (x111 == 0) = true then
                                  if (decide (x110.Lo ≤ x107.Lo)) = true then
                                    if (decide (x110.Hi ≥ x107.Hi)) = true then
                                      Option.bind (m_L01_sane ) fun x122 =>
                                      some x122
                                    else
                                      some false
                                  else
                                    some false
                                else
                                  some false
                    else
                      Option.bind (m_bylaw_Off b_ p.Lamp n p.Known) fun ⟨x124, x125⟩ =>
                      Option.bind (m_bylaw_Off b_ p.Lamp (⟨n.No, (⟨(if (W (n.Set.Lo + x13)) < x11.Set then (W (n.Set.Lo + x13)) else x11.Set), (if (W (n.Set.Hi - x15)) > x11.Set then (W (n.Set.Hi - x15)) else x11.Set)⟩ : TRange), (⟨x11.Rise, x11.Rise⟩ : TRange), (⟨(if (W (n.Light.Lo + x17)) < x11.Light then (W (n.Light.Lo + x17)) else x11.Light), x11.Light⟩ : TRange), 1⟩ : TNight) p.Known) fun ⟨x127, x128⟩ =>
                      if (x125 != 0) = true then
                        Option.bind (m_L01_sane ) fun x131 =>
                        some x131
                      else
                        if (x128 == 18) = true then
                          Option.bind (m_L01_sane ) fun x134 =>
                          some x134
                        else
                          if (x128 == 0) = true then
                            if (decide (x127.Lo ≤ x124.Lo)) = true then
                              if (decide (x127.Hi ≥ x124.Hi)) = true then
                                Option.bind (m_L01_sane ) fun x139 =>
                                some x139
                              else
                                some false
                            else
                              some false
                          else
                            some false
                  else
                    Option.bind (m_bylaw_Off b_ p.Lamp n p.Known) fun ⟨x141, x142⟩ =>
                    Option.bind (m_bylaw_Off b_ p.Lamp (⟨n.No, (⟨(if (W (n.Set.Lo + x13)) < x11.Set then (W (n.Set.Lo + x13)) else x11.Set), (if (W (n.Set.Hi - x15)) > x11.Set then (W (n.Set.Hi - x15)) else x11.Set)⟩ : TRange), (⟨x11.Rise, x11.Rise⟩ : TRange), (⟨(if (W (n.Light.Lo + x17)) < x11.Light then (W (n.Light.Lo + x17)) else x11.Light), x11.Light⟩ : TRange), 1⟩ : TNight) p.Known) fun ⟨x144, x145⟩ =>
                    if (x142 != 0) = true then
                      Option.bind (m_L01_sane ) fun x148 =>
                      some x148
                    else
                      if (x145 == 18) = true then
                        Option.bind (m_L01_sane ) fun x151 =>
                        some x151
                      else
                        if (x145 == 0) = true then
                          if (decide (x144.Lo ≤ x141.Lo)) = true then
                            if (decide (x144.Hi ≥ x141.Hi)) = true then
                              Option.bind (m_L01_sane ) fun x156 =>
                              some x156
                            else
                              some false
                          else
                            some false
                        else
                          some false
              else
                Option.bind (m_bylaw_On b_ p.Lamp n p.Known) fun ⟨x158, x159⟩ =>
                Option.bind (m_bylaw_On b_ p.Lamp (⟨n.No, (⟨(if (W (n.Set.Lo + x13)) < x11.Set then (W (n.Set.Lo + x13)) else x11.Set), (if (W (n.Set.Hi - x15)) > x11.Set then (W (n.Set.Hi - x15)) else x11.Set)⟩ : TRange), (⟨x11.Rise, x11.Rise⟩ : TRange), (⟨(if (W (n.Light.Lo + x17)) < x11.Light then (W (n.Light.Lo + x17)) else x11.Light), x11.Light⟩ : TRange), 1⟩ : TNight) p.Known) fun ⟨x161, x162⟩ =>
                if (x159 == 0) = true then
                  if (x162 != 18) = true then
                    if (x162 != 0) = true then
                      some false
                    else
                      if (decide (x161.Lo > x158.Lo)) = true then
                        some false
                      else
                        if (decide (x161.Hi < x158.Hi)) = true then
                          some false
                        else
                          Option.bind (m_bylaw_Off b_ p.Lamp n p.Known) fun ⟨x169, x170⟩ =>
                          Option.bind (m_bylaw_Off b_ p.Lamp (⟨n.No, (⟨(if (W (n.Set.Lo + x13)) < x11.Set then (W (n.Set.Lo + x13)) else x11.Set), (if (W (n.Set.Hi - x15)) > x11.Set then (W (n.Set.Hi - x15)) else x11.Set)⟩ : TRange), (⟨x11.Rise, x11.Rise⟩ : TRange), (⟨(if (W (n.Light.Lo + x17)) < x11.Light then (W (n.Light.Lo + x17)) else x11.Light), x11.Light⟩ : TRange), 1⟩ : TNight) p.Known) fun ⟨x172, x173⟩ =>
                          if (x170 != 0) = true then
                            Option.bind (m_L01_sane ) fun x176 =>
                            some x176
                          else
                            if (x173 == 18) = true then
                              Option.bind (m_L01_sane ) fun x179 =>
                              some x179
                            else
                              if (x173 == 0) = true then
                                if (decide (x172.Lo ≤ x169.Lo)) = true then
                                  if (decide (x172.Hi ≥ x169.Hi)) = true then
                                    Option.bind (m_L01_sane ) fun x184 =>
                                    some x184
                                  else
                                    some false
                                else
                                  some false
                              else
                                some false
                  else
                    Option.bind (m_bylaw_Off b_ p.Lamp n p.Known) fun ⟨x186, x187⟩ =>
                    Option.bind (m_bylaw_Off b_ p.Lamp (⟨n.No, (⟨(if (W (n.Set.Lo + x13)) < x11.Set then (W (n.Set.Lo + x13)) else x11.Set), (if (W (n.Set.Hi - x15)) > x11.Set then (W (n.Set.Hi - x15)) else x11.Set)⟩ : TRange), (⟨x11.Rise, x11.Rise⟩ : TRange), (⟨(if (W (n.Light.Lo + x17)) < x11.Light then (W (n.Light.Lo + x17)) else x11.Light), x11.Light⟩ : TRange), 1⟩ : TNight) p.Known) fun ⟨x189, x190⟩ =>
                    if (x187 != 0) = true then
                      Option.bind (m_L01_sane ) fun x193 =>
                      some x193
                    else
                      if (x190 == 18) = true then
                        Option.bind (m_L01_sane ) fun x196 =>
                        some x196
                      else
                        if (x190 == 0) = true then
                          if (decide (x189.Lo ≤ x186.Lo)) = true then
                            if (decide (x189.Hi ≥ x186.Hi)) = true then
                              Option.bind (m_L01_sane ) fun x201 =>
                              some x201
                            else
                              some false
                          else
                            some false
                        else
                          some false
                else
                  Option.bind (m_bylaw_Off b_ p.Lamp n p.Known) fun ⟨x203, x204⟩ =>
                  Option.bind (m_bylaw_Off b_ p.Lamp (⟨n.No, (⟨(if (W (n.Set.Lo + x13)) < x11.Set then (W (n.Set.Lo + x13)) else x11.Set), (if (W (n.Set.Hi - x15)) > x11.Set then (W (n.Set.Hi - x15)) else x11.Set)⟩ : TRange), (⟨x11.Rise, x11.Rise⟩ : TRange), (⟨(if (W (n.Light.Lo + x17)) < x11.Light then (W (n.Light.Lo + x17)) else x11.Light), x11.Light⟩ : TRange), 1⟩ : TNight) p.Known) fun ⟨x206, x207⟩ =>
                  if (x204 != 0) = true then
                    Option.bind (m_L01_sane ) fun x210 =>
                    some x210
                  else
                    if (x207 == 18) = true then
                      Option.bind (m_L01_sane ) fun x213 =>
                      some x213
                    else
                      if (x207 == 0) = true then
                        if (decide (x206.Lo ≤ x203.Lo)) = true then
                          if (decide (x206.Hi ≥ x203.Hi)) = true then
                            Option.bind (m_L01_sane ) fun x218 =>
                            some x218
                          else
                            some false
                        else
                          some false
                      else
                        some false
          else
            Option.bind (m_bylaw_Lit b_ p.Lamp n p.Known) fun ⟨x220, x221⟩ =>
            Option.bind (m_bylaw_Lit b_ p.Lamp (⟨n.No, (⟨(if (W (n.Set.Lo + x13)) < x11.Set then (W (n.Set.Lo + x13)) else x11.Set), (if (W (n.Set.Hi - x15)) > x11.Set then (W (n.Set.Hi - x15)) else x11.Set)⟩ : TRange), (⟨x11.Rise, x11.Rise⟩ : TRange), (⟨(if (W (n.Light.Lo + x17)) < x11.Light then (W (n.Light.Lo + x17)) else x11.Light), x11.Light⟩ : TRange), 0⟩ : TNight) p.Known) fun ⟨x223, x224⟩ =>
            if (x221 != x224) = true then
              some false
            else
              if (x221 == 0) = true then
                if (x220 != 2) = true then
                  if (x220 != x223) = true then
                    some false
                  else
                    Option.bind (m_bylaw_On b_ p.Lamp n p.Known) fun ⟨x230, x231⟩ =>
                    Option.bind (m_bylaw_On b_ p.Lamp (⟨n.No, (⟨(if (W (n.Set.Lo + x13)) < x11.Set then (W (n.Set.Lo + x13)) else x11.Set), (if (W (n.Set.Hi - x15)) > x11.Set then (W (n.Set.Hi - x15)) else x11.Set)⟩ : TRange), (⟨x11.Rise, x11.Rise⟩ : TRange), (⟨(if (W (n.Light.Lo + x17)) < x11.Light then (W (n.Light.Lo + x17)) else x11.Light), x11.Light⟩ : TRange), 0⟩ : TNight) p.Known) fun ⟨x233, x234⟩ =>
                    if (x231 == 0) = true then
                      if (x234 != 18) = true then
                        if (x234 != 0) = true then
                          some false
                        else
                          if (decide (x233.Lo > x230.Lo)) = true then
                            some false
                          else
                            if (decide (x233.Hi < x230.Hi)) = true then
                              some false
                            else
                              Option.bind (m_bylaw_Off b_ p.Lamp n p.Known) fun ⟨x241, x242⟩ =>
                              Option.bind (m_bylaw_Off b_ p.Lamp (⟨n.No, (⟨(if (W (n.Set.Lo + x13)) < x11.Set then (W (n.Set.Lo + x13)) else x11.Set), (if (W (n.Set.Hi - x15)) > x11.Set then (W (n.Set.Hi - x15)) else x11.Set)⟩ : TRange), (⟨x11.Rise, x11.Rise⟩ : TRange), (⟨(if (W (n.Light.Lo + x17)) < x11.Light then (W (n.Light.Lo + x17)) else x11.Light), x11.Light⟩ : TRange), 0⟩ : TNight) p.Known) fun ⟨x244, x245⟩ =>
                              if (x242 != 0) = true then
                                Option.bind (m_L01_sane ) fun x248 =>
                                some x248
                              else
                                if (x245 == 18) = true then
                                  Option.bind (m_L01_sane ) fun x251 =>
                                  some x251
                                else
                                  if (x245 == 0) = true then
                                    if (decide (x244.Lo ≤ x241.Lo)) = true then
                                      if (decide (x244.Hi ≥ x241.Hi)) = true then
                                        Option.bind (m_L01_sane ) fun x256 =>
                                        some x256
                                      else
                                        some false
                                    else
                                      some false
                                  else
                                    some false
                      else
                        Option.bind (m_bylaw_Off b_ p.Lamp n p.Known) fun ⟨x258, x259⟩ =>
                        Option.bind (m_bylaw_Off b_ p.Lamp (⟨n.No, (⟨(if (W (n.Set.Lo + x13)) < x11.Set then (W (n.Set.Lo + x13)) else x11.Set), (if (W (n.Set.Hi - x15)) > x11.Set then (W (n.Set.Hi - x15)) else x11.Set)⟩ : TRange), (⟨x11.Rise, x11.Rise⟩ : TRange), (⟨(if (W (n.Light.Lo + x17)) < x11.Light then (W (n.Light.Lo + x17)) else x11.Light), x11.Light⟩ : TRange), 0⟩ : TNight) p.Known) fun ⟨x261, x262⟩ =>
                        if (x259 != 0) = true then
                          Option.bind (m_L01_sane ) fun x265 =>
                          some x265
                        else
                          if (x262 == 18) = true then
                            Option.bind (m_L01_sane ) fun x268 =>
                            some x268
                          else
                            if (x262 == 0) = true then
                              if (decide (x261.Lo ≤ x258.Lo)) = true then
                                if (decide (x261.Hi ≥ x258.Hi)) = true then
                                  Option.bind (m_L01_sane ) fun x273 =>
                                  some x273
                                else
                                  some false
                              else
                                some false
                            else
                              some false
                    else
                      Option.bind (m_bylaw_Off b_ p.Lamp n p.Known) fun ⟨x275, x276⟩ =>
                      Option.bind (m_bylaw_Off b_ p.Lamp (⟨n.No, (⟨(if (W (n.Set.Lo + x13)) < x11.Set then (W (n.Set.Lo + x13)) else x11.Set), (if (W (n.Set.Hi - x15)) > x11.Set then (W (n.Set.Hi - x15)) else x11.Set)⟩ : TRange), (⟨x11.Rise, x11.Rise⟩ : TRange), (⟨(if (W (n.Light.Lo + x17)) < x11.Light then (W (n.Light.Lo + x17)) else x11.Light), x11.Light⟩ : TRange), 0⟩ : TNight) p.Known) fun ⟨x278, x279⟩ =>
                      if (x276 != 0) = true then
                        Option.bind (m_L01_sane ) fun x282 =>
                        some x282
                      else
                        if (x279 == 18) = true then
                          Option.bind (m_L01_sane ) fun x285 =>
                          some x285
                        else
                          if (x279 == 0) = true then
                            if (decide (x278.Lo ≤ x275.Lo)) = true then
                              if (decide (x278.Hi ≥ x275.Hi)) = true then
                                Option.bind (m_L01_sane ) fun x290 =>
                                some x290
                              else
                                some false
                            else
                              some false
                          else
                            some false
                else
                  Option.bind (m_bylaw_On b_ p.Lamp n p.Known) fun ⟨x292, x293⟩ =>
                  Option.bind (m_bylaw_On b_ p.Lamp (⟨n.No, (⟨(if (W (n.Set.Lo + x13)) < x11.Set then (W (n.Set.Lo + x13)) else x11.Set), (if (W (n.Set.Hi - x15)) > x11.Set then (W (n.Set.Hi - x15)) else x11.Set)⟩ : TRange), (⟨x11.Rise, x11.Rise⟩ : TRange), (⟨(if (W (n.Light.Lo + x17)) < x11.Light then (W (n.Light.Lo + x17)) else x11.Light), x11.Light⟩ : TRange), 0⟩ : TNight) p.Known) fun ⟨x295, x296⟩ =>
                  if (x293 == 0) = true then
                    if (x296 != 18) = true then
                      if (x296 != 0) = true then
                        some false
                      else
                        if (decide (x295.Lo > x292.Lo)) = true then
                          some false
                        else
                          if (decide (x295.Hi < x292.Hi)) = true then
                            some false
                          else
                            Option.bind (m_bylaw_Off b_ p.Lamp n p.Known) fun ⟨x303, x304⟩ =>
                            Option.bind (m_bylaw_Off b_ p.Lamp (⟨n.No, (⟨(if (W (n.Set.Lo + x13)) < x11.Set then (W (n.Set.Lo + x13)) else x11.Set), (if (W (n.Set.Hi - x15)) > x11.Set then (W (n.Set.Hi - x15)) else x11.Set)⟩ : TRange), (⟨x11.Rise, x11.Rise⟩ : TRange), (⟨(if (W (n.Light.Lo + x17)) < x11.Light then (W (n.Light.Lo + x17)) else x11.Light), x11.Light⟩ : TRange), 0⟩ : TNight) p.Known) fun ⟨x306, x307⟩ =>
                            if (x304 != 0) = true then
                              Option.bind (m_L01_sane ) fun x310 =>
                              some x310
                            else
                              if (x307 == 18) = true then
                                Option.bind (m_L01_sane ) fun x313 =>
                                some x313
                              else
                                if (x307 == 0) = true then
                                  if (decide (x306.Lo ≤ x303.Lo)) = true then
                                    if (decide (x306.Hi ≥ x303.Hi)) = true then
                                      Option.bind (m_L01_sane ) fun x318 =>
                                      some x318
                                    else
                                      some false
                                  else
                                    some false
                                else
                                  some false
                    else
                      Option.bind (m_bylaw_Off b_ p.Lamp n p.Known) fun ⟨x320, x321⟩ =>
                      Option.bind (m_bylaw_Off b_ p.Lamp (⟨n.No, (⟨(if (W (n.Set.Lo + x13)) < x11.Set then (W (n.Set.Lo + x13)) else x11.Set), (if (W (n.Set.Hi - x15)) > x11.Set then (W (n.Set.Hi - x15)) else x11.Set)⟩ : TRange), (⟨x11.Rise, x11.Rise⟩ : TRange), (⟨(if (W (n.Light.Lo + x17)) < x11.Light then (W (n.Light.Lo + x17)) else x11.Light), x11.Light⟩ : TRange), 0⟩ : TNight) p.Known) fun ⟨x323, x324⟩ =>
                      if (x321 != 0) = true then
                        Option.bind (m_L01_sane ) fun x327 =>
                        some x327
                      else
                        if (x324 == 18) = true then
                          Option.bind (m_L01_sane ) fun x330 =>
                          some x330
                        else
                          if (x324 == 0) = true then
                            if (decide (x323.Lo ≤ x320.Lo)) = true then
                              if (decide (x323.Hi ≥ x320.Hi)) = true then
                                Option.bind (m_L01_sane ) fun x335 =>
                                some x335
                              else
                                some false
                            else
                              some false
                          else
                            some false
                  else
                    Option.bind (m_bylaw_Off b_ p.Lamp n p.Known) fun ⟨x337, x338⟩ =>
                    Option.bind (m_bylaw_Off b_ p.Lamp (⟨n.No, (⟨(if (W (n.Set.Lo + x13)) < x11.Set then (W (n.Set.Lo + x13)) else x11.Set), (if (W (n.Set.Hi - x15)) > x11.Set then (W (n.Set.Hi - x15)) else x11.Set)⟩ : TRange), (⟨x11.Rise, x11.Rise⟩ : TRange), (⟨(if (W (n.Light.Lo + x17)) < x11.Light then (W (n.Light.Lo + x17)) else x11.Light), x11.Light⟩ : TRange), 0⟩ : TNight) p.Known) fun ⟨x340, x341⟩ =>
                    if (x338 != 0) = true then
                      Option.bind (m_L01_sane ) fun x344 =>
                      some x344
                    else
                      if (x341 == 18) = true then
                        Option.bind (m_L01_sane ) fun x347 =>
                        some x347
                      else
                        if (x341 == 0) = true then
                          if (decide (x340.Lo ≤ x337.Lo)) = true then
                            if (decide (x340.Hi ≥ x337.Hi)) = true then
                              Option.bind (m_L01_sane ) fun x352 =>
                              some x352
                            else
                              some false
                          else
                            some false
                        else
                          some false
              else
                Option.bind (m_bylaw_On b_ p.Lamp n p.Known) fun ⟨x354, x355⟩ =>
                Option.bind (m_bylaw_On b_ p.Lamp (⟨n.No, (⟨(if (W (n.Set.Lo + x13)) < x11.Set then (W (n.Set.Lo + x13)) else x11.Set), (if (W (n.Set.Hi - x15)) > x11.Set then (W (n.Set.Hi - x15)) else x11.Set)⟩ : TRange), (⟨x11.Rise, x11.Rise⟩ : TRange), (⟨(if (W (n.Light.Lo + x17)) < x11.Light then (W (n.Light.Lo + x17)) else x11.Light), x11.Light⟩ : TRange), 0⟩ : TNight) p.Known) fun ⟨x357, x358⟩ =>
                if (x355 == 0) = true then
                  if (x358 != 18) = true then
                    if (x358 != 0) = true then
                      some false
                    else
                      if (decide (x357.Lo > x354.Lo)) = true then
                        some false
                      else
                        if (decide (x357.Hi < x354.Hi)) = true then
                          some false
                        else
                          Option.bind (m_bylaw_Off b_ p.Lamp n p.Known) fun ⟨x365, x366⟩ =>
                          Option.bind (m_bylaw_Off b_ p.Lamp (⟨n.No, (⟨(if (W (n.Set.Lo + x13)) < x11.Set then (W (n.Set.Lo + x13)) else x11.Set), (if (W (n.Set.Hi - x15)) > x11.Set then (W (n.Set.Hi - x15)) else x11.Set)⟩ : TRange), (⟨x11.Rise, x11.Rise⟩ : TRange), (⟨(if (W (n.Light.Lo + x17)) < x11.Light then (W (n.Light.Lo + x17)) else x11.Light), x11.Light⟩ : TRange), 0⟩ : TNight) p.Known) fun ⟨x368, x369⟩ =>
                          if (x366 != 0) = true then
                            Option.bind (m_L01_sane ) fun x372 =>
                            some x372
                          else
                            if (x369 == 18) = true then
                              Option.bind (m_L01_sane ) fun x375 =>
                              some x375
                            else
                              if (x369 == 0) = true then
                                if (decide (x368.Lo ≤ x365.Lo)) = true then
                                  if (decide (x368.Hi ≥ x365.Hi)) = true then
                                    Option.bind (m_L01_sane ) fun x380 =>
                                    some x380
                                  else
                                    some false
                                else
                                  some false
                              else
                                some false
                  else
                    Option.bind (m_bylaw_Off b_ p.Lamp n p.Known) fun ⟨x382, x383⟩ =>
                    Option.bind (m_bylaw_Off b_ p.Lamp (⟨n.No, (⟨(if (W (n.Set.Lo + x13)) < x11.Set then (W (n.Set.Lo + x13)) else x11.Set), (if (W (n.Set.Hi - x15)) > x11.Set then (W (n.Set.Hi - x15)) else x11.Set)⟩ : TRange), (⟨x11.Rise, x11.Rise⟩ : TRange), (⟨(if (W (n.Light.Lo + x17)) < x11.Light then (W (n.Light.Lo + x17)) else x11.Light), x11.Light⟩ : TRange), 0⟩ : TNight) p.Known) fun ⟨x385, x386⟩ =>
                    if (x383 != 0) = true then
                      Option.bind (m_L01_sane ) fun x389 =>
                      some x389
                    else
                      if (x386 == 18) = true then
                        Option.bind (m_L01_sane ) fun x392 =>
                        some x392
                      else
                        if (x386 == 0) = true then
                          if (decide (x385.Lo ≤ x382.Lo)) = true then
                            if (decide (x385.Hi ≥ x382.Hi)) = true then
                              Option.bind (m_L01_sane ) fun x397 =>
                              some x397
                            else
                              some false
                          else
                            some false
                        else
                          some false
                else
                  Option.bind (m_bylaw_Off b_ p.Lamp n p.Known) fun ⟨x399, x400⟩ =>
                  Option.bind (m_bylaw_Off b_ p.Lamp (⟨n.No, (⟨(if (W (n.Set.Lo + x13)) < x11.Set then (W (n.Set.Lo + x13)) else x11.Set), (if (W (n.Set.Hi - x15)) > x11.Set then (W (n.Set.Hi - x15)) else x11.Set)⟩ : TRange), (⟨x11.Rise, x11.Rise⟩ : TRange), (⟨(if (W (n.Light.Lo + x17)) < x11.Light then (W (n.Light.Lo + x17)) else x11.Light), x11.Light⟩ : TRange), 0⟩ : TNight) p.Known) fun ⟨x402, x403⟩ =>
                  if (x400 != 0) = true then
                    Option.bind (m_L01_sane ) fun x406 =>
                    some x406
                  else
                    if (x403 == 18) = true then
                      Option.bind (m_L01_sane ) fun x409 =>
                      some x409
                    else
                      if (x403 == 0) = true then
                        if (decide (x402.Lo ≤ x399.Lo)) = true then
                          if (decide (x402.Hi ≥ x399.Hi)) = true then
                            Option.bind (m_L01_sane ) fun x414 =>
                            some x414
                          else
                            some false
                        else
                          some false
                      else
                        some false
        else
          Option.bind (m_bylaw_Lit b_ p.Lamp n p.Known) fun ⟨x416, x417⟩ =>
          Option.bind (m_bylaw_Lit b_ p.Lamp (⟨n.No, (⟨(if (W (n.Set.Lo + x13)) < x11.Set then (W (n.Set.Lo + x13)) else x11.Set), (if (W (n.Set.Hi - x15)) > x11.Set then (W (n.Set.Hi - x15)) else x11.Set)⟩ : TRange), (⟨x11.Rise, x11.Rise⟩ : TRange), (⟨(if (W (n.Light.Lo + x17)) < x11.Light then (W (n.Light.Lo + x17)) else x11.Light), x11.Light⟩ : TRange), n.Fog⟩ : TNight) p.Known) fun ⟨x419, x420⟩ =>
          if (x417 != x420) = true then
            some false
          else
            if (x417 == 0) = true then
              if (x416 != 2) = true then
                if (x416 != x419) = true then
                  some false
                else
                  Option.bind (m_bylaw_On b_ p.Lamp n p.Known) fun ⟨x426, x427⟩ =>
                  Option.bind (m_bylaw_On b_ p.Lamp (⟨n.No, (⟨(if (W (n.Set.Lo + x13)) < x11.Set then (W (n.Set.Lo + x13)) else x11.Set), (if (W (n.Set.Hi - x15)) > x11.Set then (W (n.Set.Hi - x15)) else x11.Set)⟩ : TRange), (⟨x11.Rise, x11.Rise⟩ : TRange), (⟨(if (W (n.Light.Lo + x17)) < x11.Light then (W (n.Light.Lo + x17)) else x11.Light), x11.Light⟩ : TRange), n.Fog⟩ : TNight) p.Known) fun ⟨x429, x430⟩ =>
                  if (x427 == 0) = true then
                    if (x430 != 18) = true then
                      if (x430 != 0) = true then
                        some false
                      else
                        if (decide (x429.Lo > x426.Lo)) = true then
                          some false
                        else
                          if (decide (x429.Hi < x426.Hi)) = true then
                            some false
                          else
                            Option.bind (m_bylaw_Off b_ p.Lamp n p.Known) fun ⟨x437, x438⟩ =>
                            Option.bind (m_bylaw_Off b_ p.Lamp (⟨n.No, (⟨(if (W (n.Set.Lo + x13)) < x11.Set then (W (n.Set.Lo + x13)) else x11.Set), (if (W (n.Set.Hi - x15)) > x11.Set then (W (n.Set.Hi - x15)) else x11.Set)⟩ : TRange), (⟨x11.Rise, x11.Rise⟩ : TRange), (⟨(if (W (n.Light.Lo + x17)) < x11.Light then (W (n.Light.Lo + x17)) else x11.Light), x11.Light⟩ : TRange), n.Fog⟩ : TNight) p.Known) fun ⟨x440, x441⟩ =>
                            if (x438 != 0) = true then
                              Option.bind (m_L01_sane ) fun x444 =>
                              some x444
                            else
                              if (x441 == 18) = true then
                                Option.bind (m_L01_sane ) fun x447 =>
                                some x447
                              else
                                if (x441 == 0) = true then
                                  if (decide (x440.Lo ≤ x437.Lo)) = true then
                                    if (decide (x440.Hi ≥ x437.Hi)) = true then
                                      Option.bind (m_L01_sane ) fun x452 =>
                                      some x452
                                    else
                                      some false
                                  else
                                    some false
                                else
                                  some false
                    else
                      Option.bind (m_bylaw_Off b_ p.Lamp n p.Known) fun ⟨x454, x455⟩ =>
                      Option.bind (m_bylaw_Off b_ p.Lamp (⟨n.No, (⟨(if (W (n.Set.Lo + x13)) < x11.Set then (W (n.Set.Lo + x13)) else x11.Set), (if (W (n.Set.Hi - x15)) > x11.Set then (W (n.Set.Hi - x15)) else x11.Set)⟩ : TRange), (⟨x11.Rise, x11.Rise⟩ : TRange), (⟨(if (W (n.Light.Lo + x17)) < x11.Light then (W (n.Light.Lo + x17)) else x11.Light), x11.Light⟩ : TRange), n.Fog⟩ : TNight) p.Known) fun ⟨x457, x458⟩ =>
                      if (x455 != 0) = true then
                        Option.bind (m_L01_sane ) fun x461 =>
                        some x461
                      else
                        if (x458 == 18) = true then
                          Option.bind (m_L01_sane ) fun x464 =>
                          some x464
                        else
                          if (x458 == 0) = true then
                            if (decide (x457.Lo ≤ x454.Lo)) = true then
                              if (decide (x457.Hi ≥ x454.Hi)) = true then
                                Option.bind (m_L01_sane ) fun x469 =>
                                some x469
                              else
                                some false
                            else
                              some false
                          else
                            some false
                  else
                    Option.bind (m_bylaw_Off b_ p.Lamp n p.Known) fun ⟨x471, x472⟩ =>
                    Option.bind (m_bylaw_Off b_ p.Lamp (⟨n.No, (⟨(if (W (n.Set.Lo + x13)) < x11.Set then (W (n.Set.Lo + x13)) else x11.Set), (if (W (n.Set.Hi - x15)) > x11.Set then (W (n.Set.Hi - x15)) else x11.Set)⟩ : TRange), (⟨x11.Rise, x11.Rise⟩ : TRange), (⟨(if (W (n.Light.Lo + x17)) < x11.Light then (W (n.Light.Lo + x17)) else x11.Light), x11.Light⟩ : TRange), n.Fog⟩ : TNight) p.Known) fun ⟨x474, x475⟩ =>
                    if (x472 != 0) = true then
                      Option.bind (m_L01_sane ) fun x478 =>
                      some x478
                    else
                      if (x475 == 18) = true then
                        Option.bind (m_L01_sane ) fun x481 =>
                        some x481
                      else
                        if (x475 == 0) = true then
                          if (decide (x474.Lo ≤ x471.Lo)) = true then
                            if (decide (x474.Hi ≥ x471.Hi)) = true then
                              Option.bind (m_L01_sane ) fun x486 =>
                              some x486
                            else
                              some false
                          else
                            some false
                        else
                          some false
              else
                Option.bind (m_bylaw_On b_ p.Lamp n p.Known) fun ⟨x488, x489⟩ =>
                Option.bind (m_bylaw_On b_ p.Lamp (⟨n.No, (⟨(if (W (n.Set.Lo + x13)) < x11.Set then (W (n.Set.Lo + x13)) else x11.Set), (if (W (n.Set.Hi - x15)) > x11.Set then (W (n.Set.Hi - x15)) else x11.Set)⟩ : TRange), (⟨x11.Rise, x11.Rise⟩ : TRange), (⟨(if (W (n.Light.Lo + x17)) < x11.Light then (W (n.Light.Lo + x17)) else x11.Light), x11.Light⟩ : TRange), n.Fog⟩ : TNight) p.Known) fun ⟨x491, x492⟩ =>
                if (x489 == 0) = true then
                  if (x492 != 18) = true then
                    if (x492 != 0) = true then
                      some false
                    else
                      if (decide (x491.Lo > x488.Lo)) = true then
                        some false
                      else
                        if (decide (x491.Hi < x488.Hi)) = true then
                          some false
                        else
                          Option.bind (m_bylaw_Off b_ p.Lamp n p.Known) fun ⟨x499, x500⟩ =>
                          Option.bind (m_bylaw_Off b_ p.Lamp (⟨n.No, (⟨(if (W (n.Set.Lo + x13)) < x11.Set then (W (n.Set.Lo + x13)) else x11.Set), (if (W (n.Set.Hi - x15)) > x11.Set then (W (n.Set.Hi - x15)) else x11.Set)⟩ : TRange), (⟨x11.Rise, x11.Rise⟩ : TRange), (⟨(if (W (n.Light.Lo + x17)) < x11.Light then (W (n.Light.Lo + x17)) else x11.Light), x11.Light⟩ : TRange), n.Fog⟩ : TNight) p.Known) fun ⟨x502, x503⟩ =>
                          if (x500 != 0) = true then
                            Option.bind (m_L01_sane ) fun x506 =>
                            some x506
                          else
                            if (x503 == 18) = true then
                              Option.bind (m_L01_sane ) fun x509 =>
                              some x509
                            else
                              if (x503 == 0) = true then
                                if (decide (x502.Lo ≤ x499.Lo)) = true then
                                  if (decide (x502.Hi ≥ x499.Hi)) = true then
                                    Option.bind (m_L01_sane ) fun x514 =>
                                    some x514
                                  else
                                    some false
                                else
                                  some false
                              else
                                some false
                  else
                    Option.bind (m_bylaw_Off b_ p.Lamp n p.Known) fun ⟨x516, x517⟩ =>
                    Option.bind (m_bylaw_Off b_ p.Lamp (⟨n.No, (⟨(if (W (n.Set.Lo + x13)) < x11.Set then (W (n.Set.Lo + x13)) else x11.Set), (if (W (n.Set.Hi - x15)) > x11.Set then (W (n.Set.Hi - x15)) else x11.Set)⟩ : TRange), (⟨x11.Rise, x11.Rise⟩ : TRange), (⟨(if (W (n.Light.Lo + x17)) < x11.Light then (W (n.Light.Lo + x17)) else x11.Light), x11.Light⟩ : TRange), n.Fog⟩ : TNight) p.Known) fun ⟨x519, x520⟩ =>
                    if (x517 != 0) = true then
                      Option.bind (m_L01_sane ) fun x523 =>
                      some x523
                    else
                      if (x520 == 18) = true then
                        Option.bind (m_L01_sane ) fun x526 =>
                        some x526
                      else
                        if (x520 == 0) = true then
                          if (decide (x519.Lo ≤ x516.Lo)) = true then
                            if (decide (x519.Hi ≥ x516.Hi)) = true then
                              Option.bind (m_L01_sane ) fun x531 =>
                              some x531
                            else
                              some false
                          else
                            some false
                        else
                          some false
                else
                  Option.bind (m_bylaw_Off b_ p.Lamp n p.Known) fun ⟨x533, x534⟩ =>
                  Option.bind (m_bylaw_Off b_ p.Lamp (⟨n.No, (⟨(if (W (n.Set.Lo + x13)) < x11.Set then (W (n.Set.Lo + x13)) else x11.Set), (if (W (n.Set.Hi - x15)) > x11.Set then (W (n.Set.Hi - x15)) else x11.Set)⟩ : TRange), (⟨x11.Rise, x11.Rise⟩ : TRange), (⟨(if (W (n.Light.Lo + x17)) < x11.Light then (W (n.Light.Lo + x17)) else x11.Light), x11.Light⟩ : TRange), n.Fog⟩ : TNight) p.Known) fun ⟨x536, x537⟩ =>
                  if (x534 != 0) = true then
                    Option.bind (m_L01_sane ) fun x540 =>
                    some x540
                  else
                    if (x537 == 18) = true then
                      Option.bind (m_L01_sane ) fun x543 =>
                      some x543
                    else
                      if (x537 == 0) = true then
                        if (decide (x536.Lo ≤ x533.Lo)) = true then
                          if (decide (x536.Hi ≥ x533.Hi)) = true then
                            Option.bind (m_L01_sane ) fun x548 =>
                            some x548
                          else
                            some false
                        else
                          some false
                      else
                        some false
            else
              Option.bind (m_bylaw_On b_ p.Lamp n p.Known) fun ⟨x550, x551⟩ =>
              Option.bind (m_bylaw_On b_ p.Lamp (⟨n.No, (⟨(if (W (n.Set.Lo + x13)) < x11.Set then (W (n.Set.Lo + x13)) else x11.Set), (if (W (n.Set.Hi - x15)) > x11.Set then (W (n.Set.Hi - x15)) else x11.Set)⟩ : TRange), (⟨x11.Rise, x11.Rise⟩ : TRange), (⟨(if (W (n.Light.Lo + x17)) < x11.Light then (W (n.Light.Lo + x17)) else x11.Light), x11.Light⟩ : TRange), n.Fog⟩ : TNight) p.Known) fun ⟨x553, x554⟩ =>
              if (x551 == 0) = true then
                if (x554 != 18) = true then
                  if (x554 != 0) = true then
                    some false
                  else
                    if (decide (x553.Lo > x550.Lo)) = true then
                      some false
                    else
                      if (decide (x553.Hi < x550.Hi)) = true then
                        some false
                      else
                        Option.bind (m_bylaw_Off b_ p.Lamp n p.Known) fun ⟨x561, x562⟩ =>
                        Option.bind (m_bylaw_Off b_ p.Lamp (⟨n.No, (⟨(if (W (n.Set.Lo + x13)) < x11.Set then (W (n.Set.Lo + x13)) else x11.Set), (if (W (n.Set.Hi - x15)) > x11.Set then (W (n.Set.Hi - x15)) else x11.Set)⟩ : TRange), (⟨x11.Rise, x11.Rise⟩ : TRange), (⟨(if (W (n.Light.Lo + x17)) < x11.Light then (W (n.Light.Lo + x17)) else x11.Light), x11.Light⟩ : TRange), n.Fog⟩ : TNight) p.Known) fun ⟨x564, x565⟩ =>
                        if (x562 != 0) = true then
                          Option.bind (m_L01_sane ) fun x568 =>
                          some x568
                        else
                          if (x565 == 18) = true then
                            Option.bind (m_L01_sane ) fun x571 =>
                            some x571
                          else
                            if (x565 == 0) = true then
                              if (decide (x564.Lo ≤ x561.Lo)) = true then
                                if (decide (x564.Hi ≥ x561.Hi)) = true then
                                  Option.bind (m_L01_sane ) fun x576 =>
                                  some x576
                                else
                                  some false
                              else
                                some false
                            else
                              some false
                else
                  Option.bind (m_bylaw_Off b_ p.Lamp n p.Known) fun ⟨x578, x579⟩ =>
                  Option.bind (m_bylaw_Off b_ p.Lamp (⟨n.No, (⟨(if (W (n.Set.Lo + x13)) < x11.Set then (W (n.Set.Lo + x13)) else x11.Set), (if (W (n.Set.Hi - x15)) > x11.Set then (W (n.Set.Hi - x15)) else x11.Set)⟩ : TRange), (⟨x11.Rise, x11.Rise⟩ : TRange), (⟨(if (W (n.Light.Lo + x17)) < x11.Light then (W (n.Light.Lo + x17)) else x11.Light), x11.Light⟩ : TRange), n.Fog⟩ : TNight) p.Known) fun ⟨x581, x582⟩ =>
                  if (x579 != 0) = true then
                    Option.bind (m_L01_sane ) fun x585 =>
                    some x585
                  else
                    if (x582 == 18) = true then
                      Option.bind (m_L01_sane ) fun x588 =>
                      some x588
                    else
                      if (x582 == 0) = true then
                        if (decide (x581.Lo ≤ x578.Lo)) = true then
                          if (decide (x581.Hi ≥ x578.Hi)) = true then
                            Option.bind (m_L01_sane ) fun x593 =>
                            some x593
                          else
                            some false
                        else
                          some false
                      else
                        some false
              else
                Option.bind (m_bylaw_Off b_ p.Lamp n p.Known) fun ⟨x595, x596⟩ =>
                Option.bind (m_bylaw_Off b_ p.Lamp (⟨n.No, (⟨(if (W (n.Set.Lo + x13)) < x11.Set then (W (n.Set.Lo + x13)) else x11.Set), (if (W (n.Set.Hi - x15)) > x11.Set then (W (n.Set.Hi - x15)) else x11.Set)⟩ : TRange), (⟨x11.Rise, x11.Rise⟩ : TRange), (⟨(if (W (n.Light.Lo + x17)) < x11.Light then (W (n.Light.Lo + x17)) else x11.Light), x11.Light⟩ : TRange), n.Fog⟩ : TNight) p.Known) fun ⟨x598, x599⟩ =>
                if (x596 != 0) = true then
                  Option.bind (m_L01_sane ) fun x602 =>
                  some x602
                else
                  if (x599 == 18) = true then
                    Option.bind (m_L01_sane ) fun x605 =>
                    some x605
                  else
                    if (x599 == 0) = true then
                      if (decide (x598.Lo ≤ x595.Lo)) = true then
                        if (decide (x598.Hi ≥ x595.Hi)) = true then
                          Option.bind (m_L01_sane ) fun x610 =>
                          some x610
                        else
                          some false
                      else
                        some false
                    else
                      some false
      else
        Option.bind (m_bylaw_Lit b_ p.Lamp n p.Known) fun ⟨x612, x613⟩ =>
        Option.bind (m_bylaw_Lit b_ p.Lamp (⟨n.No, (⟨(if (W (n.Set.Lo + x13)) < x11.Set then (W (n.Set.Lo + x13)) else x11.Set), (if (W (n.Set.Hi - x15)) > x11.Set then (W (n.Set.Hi - x15)) else x11.Set)⟩ : TRange), (⟨x11.Rise, x11.Rise⟩ : TRange), (⟨(if (W (n.Light.Lo + x17)) < x11.Light then (W (n.Light.Lo + x17)) else x11.Light), x11.Light⟩ : TRange), n.Fog⟩ : TNight) p.Known) fun ⟨x615, x616⟩ =>
        if (x613 != x616) = true then
          some false
        else
          if (x613 == 0) = true then
            if (x612 != 2) = true then
              if (x612 != x615) = true then
                some false
              else
                Option.bind (m_bylaw_On b_ p.Lamp n p.Known) fun ⟨x622, x623⟩ =>
                Option.bind (m_bylaw_On b_ p.Lamp (⟨n.No, (⟨(if (W (n.Set.Lo + x13)) < x11.Set then (W (n.Set.Lo + x13)) else x11.Set), (if (W (n.Set.Hi - x15)) > x11.Set then (W (n.Set.Hi - x15)) else x11.Set)⟩ : TRange), (⟨x11.Rise, x11.Rise⟩ : TRange), (⟨(if (W (n.Light.Lo + x17)) < x11.Light then (W (n.Light.Lo + x17)) else x11.Light), x11.Light⟩ : TRange), n.Fog⟩ : TNight) p.Known) fun ⟨x625, x626⟩ =>
                if (x623 == 0) = true then
                  if (x626 != 18) = true then
                    if (x626 != 0) = true then
                      some false
                    else
                      if (decide (x625.Lo > x622.Lo)) = true then
                        some false
                      else
                        if (decide (x625.Hi < x622.Hi)) = true then
                          some false
                        else
                          Option.bind (m_bylaw_Off b_ p.Lamp n p.Known) fun ⟨x633, x634⟩ =>
                          Option.bind (m_bylaw_Off b_ p.Lamp (⟨n.No, (⟨(if (W (n.Set.Lo + x13)) < x11.Set then (W (n.Set.Lo + x13)) else x11.Set), (if (W (n.Set.Hi - x15)) > x11.Set then (W (n.Set.Hi - x15)) else x11.Set)⟩ : TRange), (⟨x11.Rise, x11.Rise⟩ : TRange), (⟨(if (W (n.Light.Lo + x17)) < x11.Light then (W (n.Light.Lo + x17)) else x11.Light), x11.Light⟩ : TRange), n.Fog⟩ : TNight) p.Known) fun ⟨x636, x637⟩ =>
                          if (x634 != 0) = true then
                            Option.bind (m_L01_sane ) fun x640 =>
                            some x640
                          else
                            if (x637 == 18) = true then
                              Option.bind (m_L01_sane ) fun x643 =>
                              some x643
                            else
                              if (x637 == 0) = true then
                                if (decide (x636.Lo ≤ x633.Lo)) = true then
                                  if (decide (x636.Hi ≥ x633.Hi)) = true then
                                    Option.bind (m_L01_sane ) fun x648 =>
                                    some x648
                                  else
                                    some false
                                else
                                  some false
                              else
                                some false
                  else
                    Option.bind (m_bylaw_Off b_ p.Lamp n p.Known) fun ⟨x650, x651⟩ =>
                    Option.bind (m_bylaw_Off b_ p.Lamp (⟨n.No, (⟨(if (W (n.Set.Lo + x13)) < x11.Set then (W (n.Set.Lo + x13)) else x11.Set), (if (W (n.Set.Hi - x15)) > x11.Set then (W (n.Set.Hi - x15)) else x11.Set)⟩ : TRange), (⟨x11.Rise, x11.Rise⟩ : TRange), (⟨(if (W (n.Light.Lo + x17)) < x11.Light then (W (n.Light.Lo + x17)) else x11.Light), x11.Light⟩ : TRange), n.Fog⟩ : TNight) p.Known) fun ⟨x653, x654⟩ =>
                    if (x651 != 0) = true then
                      Option.bind (m_L01_sane ) fun x657 =>
                      some x657
                    else
                      if (x654 == 18) = true then
                        Option.bind (m_L01_sane ) fun x660 =>
                        some x660
                      else
                        if (x654 == 0) = true then
                          if (decide (x653.Lo ≤ x650.Lo)) = true then
                            if (decide (x653.Hi ≥ x650.Hi)) = true then
                              Option.bind (m_L01_sane ) fun x665 =>
                              some x665
                            else
                              some false
                          else
                            some false
                        else
                          some false
                else
                  Option.bind (m_bylaw_Off b_ p.Lamp n p.Known) fun ⟨x667, x668⟩ =>
                  Option.bind (m_bylaw_Off b_ p.Lamp (⟨n.No, (⟨(if (W (n.Set.Lo + x13)) < x11.Set then (W (n.Set.Lo + x13)) else x11.Set), (if (W (n.Set.Hi - x15)) > x11.Set then (W (n.Set.Hi - x15)) else x11.Set)⟩ : TRange), (⟨x11.Rise, x11.Rise⟩ : TRange), (⟨(if (W (n.Light.Lo + x17)) < x11.Light then (W (n.Light.Lo + x17)) else x11.Light), x11.Light⟩ : TRange), n.Fog⟩ : TNight) p.Known) fun ⟨x670, x671⟩ =>
                  if (x668 != 0) = true then
                    Option.bind (m_L01_sane ) fun x674 =>
                    some x674
                  else
                    if (x671 == 18) = true then
                      Option.bind (m_L01_sane ) fun x677 =>
                      some x677
                    else
                      if (x671 == 0) = true then
                        if (decide (x670.Lo ≤ x667.Lo)) = true then
                          if (decide (x670.Hi ≥ x667.Hi)) = true then
                            Option.bind (m_L01_sane ) fun x682 =>
                            some x682
                          else
                            some false
                        else
                          some false
                      else
                        some false
            else
              Option.bind (m_bylaw_On b_ p.Lamp n p.Known) fun ⟨x684, x685⟩ =>
              Option.bind (m_bylaw_On b_ p.Lamp (⟨n.No, (⟨(if (W (n.Set.Lo + x13)) < x11.Set then (W (n.Set.Lo + x13)) else x11.Set), (if (W (n.Set.Hi - x15)) > x11.Set then (W (n.Set.Hi - x15)) else x11.Set)⟩ : TRange), (⟨x11.Rise, x11.Rise⟩ : TRange), (⟨(if (W (n.Light.Lo + x17)) < x11.Light then (W (n.Light.Lo + x17)) else x11.Light), x11.Light⟩ : TRange), n.Fog⟩ : TNight) p.Known) fun ⟨x687, x688⟩ =>
              if (x685 == 0) = true then
                if (x688 != 18) = true then
                  if (x688 != 0) = true then
                    some false
                  else
                    if (decide (x687.Lo > x684.Lo)) = true then
                      some false
                    else
                      if (decide (x687.Hi < x684.Hi)) = true then
                        some false
                      else
                        Option.bind (m_bylaw_Off b_ p.Lamp n p.Known) fun ⟨x695, x696⟩ =>
                        Option.bind (m_bylaw_Off b_ p.Lamp (⟨n.No, (⟨(if (W (n.Set.Lo + x13)) < x11.Set then (W (n.Set.Lo + x13)) else x11.Set), (if (W (n.Set.Hi - x15)) > x11.Set then (W (n.Set.Hi - x15)) else x11.Set)⟩ : TRange), (⟨x11.Rise, x11.Rise⟩ : TRange), (⟨(if (W (n.Light.Lo + x17)) < x11.Light then (W (n.Light.Lo + x17)) else x11.Light), x11.Light⟩ : TRange), n.Fog⟩ : TNight) p.Known) fun ⟨x698, x699⟩ =>
                        if (x696 != 0) = true then
                          Option.bind (m_L01_sane ) fun x702 =>
                          some x702
                        else
                          if (x699 == 18) = true then
                            Option.bind (m_L01_sane ) fun x705 =>
                            some x705
                          else
                            if (x699 == 0) = true then
                              if (decide (x698.Lo ≤ x695.Lo)) = true then
                                if (decide (x698.Hi ≥ x695.Hi)) = true then
                                  Option.bind (m_L01_sane ) fun x710 =>
                                  some x710
                                else
                                  some false
                              else
                                some false
                            else
                              some false
                else
                  Option.bind (m_bylaw_Off b_ p.Lamp n p.Known) fun ⟨x712, x713⟩ =>
                  Option.bind (m_bylaw_Off b_ p.Lamp (⟨n.No, (⟨(if (W (n.Set.Lo + x13)) < x11.Set then (W (n.Set.Lo + x13)) else x11.Set), (if (W (n.Set.Hi - x15)) > x11.Set then (W (n.Set.Hi - x15)) else x11.Set)⟩ : TRange), (⟨x11.Rise, x11.Rise⟩ : TRange), (⟨(if (W (n.Light.Lo + x17)) < x11.Light then (W (n.Light.Lo + x17)) else x11.Light), x11.Light⟩ : TRange), n.Fog⟩ : TNight) p.Known) fun ⟨x715, x716⟩ =>
                  if (x713 != 0) = true then
                    Option.bind (m_L01_sane ) fun x719 =>
                    some x719
                  else
                    if (x716 == 18) = true then
                      Option.bind (m_L01_sane ) fun x722 =>
                      some x722
                    else
                      if (x716 == 0) = true then
                        if (decide (x715.Lo ≤ x712.Lo)) = true then
                          if (decide (x715.Hi ≥ x712.Hi)) = true then
                            Option.bind (m_L01_sane ) fun x727 =>
                            some x727
                          else
                            some false
                        else
                          some false
                      else
                        some false
              else
                Option.bind (m_bylaw_Off b_ p.Lamp n p.Known) fun ⟨x729, x730⟩ =>
                Option.bind (m_bylaw_Off b_ p.Lamp (⟨n.No, (⟨(if (W (n.Set.Lo + x13)) < x11.Set then (W (n.Set.Lo + x13)) else x11.Set), (if (W (n.Set.Hi - x15)) > x11.Set then (W (n.Set.Hi - x15)) else x11.Set)⟩ : TRange), (⟨x11.Rise, x11.Rise⟩ : TRange), (⟨(if (W (n.Light.Lo + x17)) < x11.Light then (W (n.Light.Lo + x17)) else x11.Light), x11.Light⟩ : TRange), n.Fog⟩ : TNight) p.Known) fun ⟨x732, x733⟩ =>
                if (x730 != 0) = true then
                  Option.bind (m_L01_sane ) fun x736 =>
                  some x736
                else
                  if (x733 == 18) = true then
                    Option.bind (m_L01_sane ) fun x739 =>
                    some x739
                  else
                    if (x733 == 0) = true then
                      if (decide (x732.Lo ≤ x729.Lo)) = true then
                        if (decide (x732.Hi ≥ x729.Hi)) = true then
                          Option.bind (m_L01_sane ) fun x744 =>
                          some x744
                        else
                          some false
                      else
                        some false
                    else
                      some false
          else
            Option.bind (m_bylaw_On b_ p.Lamp n p.Known) fun ⟨x746, x747⟩ =>
            Option.bind (m_bylaw_On b_ p.Lamp (⟨n.No, (⟨(if (W (n.Set.Lo + x13)) < x11.Set then (W (n.Set.Lo + x13)) else x11.Set), (if (W (n.Set.Hi - x15)) > x11.Set then (W (n.Set.Hi - x15)) else x11.Set)⟩ : TRange), (⟨x11.Rise, x11.Rise⟩ : TRange), (⟨(if (W (n.Light.Lo + x17)) < x11.Light then (W (n.Light.Lo + x17)) else x11.Light), x11.Light⟩ : TRange), n.Fog⟩ : TNight) p.Known) fun ⟨x749, x750⟩ =>
            if (x747 == 0) = true then
              if (x750 != 18) = true then
                if (x750 != 0) = true then
                  some false
                else
                  if (decide (x749.Lo > x746.Lo)) = true then
                    some false
                  else
                    if (decide (x749.Hi < x746.Hi)) = true then
                      some false
                    else
                      Option.bind (m_bylaw_Off b_ p.Lamp n p.Known) fun ⟨x757, x758⟩ =>
                      Option.bind (m_bylaw_Off b_ p.Lamp (⟨n.No, (⟨(if (W (n.Set.Lo + x13)) < x11.Set then (W (n.Set.Lo + x13)) else x11.Set), (if (W (n.Set.Hi - x15)) > x11.Set then (W (n.Set.Hi - x15)) else x11.Set)⟩ : TRange), (⟨x11.Rise, x11.Rise⟩ : TRange), (⟨(if (W (n.Light.Lo + x17)) < x11.Light then (W (n.Light.Lo + x17)) else x11.Light), x11.Light⟩ : TRange), n.Fog⟩ : TNight) p.Known) fun ⟨x760, x761⟩ =>
                      if (x758 != 0) = true then
                        Option.bind (m_L01_sane ) fun x764 =>
                        some x764
                      else
                        if (x761 == 18) = true then
                          Option.bind (m_L01_sane ) fun x767 =>
                          some x767
                        else
                          if (x761 == 0) = true then
                            if (decide (x760.Lo ≤ x757.Lo)) = true then
                              if (decide (x760.Hi ≥ x757.Hi)) = true then
                                Option.bind (m_L01_sane ) fun x772 =>
                                some x772
                              else
                                some false
                            else
                              some false
                          else
                            some false
              else
                Option.bind (m_bylaw_Off b_ p.Lamp n p.Known) fun ⟨x774, x775⟩ =>
                Option.bind (m_bylaw_Off b_ p.Lamp (⟨n.No, (⟨(if (W (n.Set.Lo + x13)) < x11.Set then (W (n.Set.Lo + x13)) else x11.Set), (if (W (n.Set.Hi - x15)) > x11.Set then (W (n.Set.Hi - x15)) else x11.Set)⟩ : TRange), (⟨x11.Rise, x11.Rise⟩ : TRange), (⟨(if (W (n.Light.Lo + x17)) < x11.Light then (W (n.Light.Lo + x17)) else x11.Light), x11.Light⟩ : TRange), n.Fog⟩ : TNight) p.Known) fun ⟨x777, x778⟩ =>
                if (x775 != 0) = true then
                  Option.bind (m_L01_sane ) fun x781 =>
                  some x781
                else
                  if (x778 == 18) = true then
                    Option.bind (m_L01_sane ) fun x784 =>
                    some x784
                  else
                    if (x778 == 0) = true then
                      if (decide (x777.Lo ≤ x774.Lo)) = true then
                        if (decide (x777.Hi ≥ x774.Hi)) = true then
                          Option.bind (m_L01_sane ) fun x789 =>
                          some x789
                        else
                          some false
                      else
                        some false
                    else
                      some false
            else
              Option.bind (m_bylaw_Off b_ p.Lamp n p.Known) fun ⟨x791, x792⟩ =>
              Option.bind (m_bylaw_Off b_ p.Lamp (⟨n.No, (⟨(if (W (n.Set.Lo + x13)) < x11.Set then (W (n.Set.Lo + x13)) else x11.Set), (if (W (n.Set.Hi - x15)) > x11.Set then (W (n.Set.Hi - x15)) else x11.Set)⟩ : TRange), (⟨x11.Rise, x11.Rise⟩ : TRange), (⟨(if (W (n.Light.Lo + x17)) < x11.Light then (W (n.Light.Lo + x17)) else x11.Light), x11.Light⟩ : TRange), n.Fog⟩ : TNight) p.Known) fun ⟨x794, x795⟩ =>
              if (x792 != 0) = true then
                Option.bind (m_L01_sane ) fun x798 =>
                some x798
              else
                if (x795 == 18) = true then
                  Option.bind (m_L01_sane ) fun x801 =>
                  some x801
                else
                  if (x795 == 0) = true then
                    if (decide (x794.Lo ≤ x791.Lo)) = true then
                      if (decide (x794.Hi ≥ x791.Hi)) = true then
                        Option.bind (m_L01_sane ) fun x806 =>
                        some x806
                      else
                        some false
                    else
                      some false
                  else
                    some false
theorem d_L01_BylawNarrow (b_ : TBylaw) (n : TNight) (p : TPick) (r : Bool) (hm : m_L01_BylawNarrow b_ n p = some r) : Does Try.prog 3 [.agg (TBylaw.c b_), .agg (TNight.c n), .agg (TPick.c p)] (fun x => x = DB r) := by
  refine does_zy (X := ⟨Try.prog, tt, Try.f3.ntmps, pl3, [], [], [], [71], []⟩) pok _ Try.func3 rfl rfl (Nat.le_of_ble_eq_true rfl) ?_
  obtain ⟨x1, hx2, hm⟩ := bd_some hm
  refine CallY.det (d_R01_Check b_ _ hx2) ?_
  revert hm
  refine VIf.b (fun h3 hm => ?_) (fun h3 hm => ?_)
  obtain ⟨x4, hx5, hm⟩ := bd_some hm
  refine CallY.det (d_L01_sane  _ hx5) ?_
  cases hm
  exact RetY.le (leD.refl _)
  obtain ⟨x6, hx7, hm⟩ := bd_some hm
  refine CallY.det (d_R01_CheckNight n _ hx7) ?_
  revert hm
  refine VIf.b (fun h8 hm => ?_) (fun h8 hm => ?_)
  obtain ⟨x9, hx10, hm⟩ := bd_some hm
  refine CallY.det (d_L01_sane  _ hx10) ?_
  cases hm
  exact RetY.le (leD.refl _)
  obtain ⟨x11, hx12, hm⟩ := bd_some hm
  refine CallY.det (d_L01_truth n p.Truth _ hx12) ?_
  refine ⟨rfl, ?_⟩
  obtain ⟨x13, hx14, hm⟩ := bd_some hm
  refine CallY.det (d_R01_Mod p.On 9 _ hx14) ?_
  obtain ⟨x15, hx16, hm⟩ := bd_some hm
  refine CallY.det (d_R01_Mod p.Off 9 _ hx16) ?_
  refine ⟨rfl, ?_⟩
  obtain ⟨x17, hx18, hm⟩ := bd_some hm
  refine CallY.det (d_R01_Mod p.Off 99 _ hx18) ?_
  revert hm
  refine VIf.b (fun h19 hm => ?_) (fun h19 hm => ?_)
  obtain ⟨x20, hx21, hm⟩ := bd_some hm
  refine CallY.det (d_R01_Mod p.On 2 _ hx21) ?_
  revert hm
  refine VIf.b (fun h22 hm => ?_) (fun h22 hm => ?_)
  revert hm
  refine VIf.b (fun h23 hm => ?_) (fun h23 hm => ?_)
  obtain ⟨⟨x24, x25⟩, hx26, hm⟩ := bd_some hm
  refine CallY.det (d_bylaw_Lit b_ p.Lamp n p.Known _ hx26) ?_
  obtain ⟨⟨x27, x28⟩, hx29, hm⟩ := bd_some hm
  refine CallY.det (d_bylaw_Lit b_ p.Lamp ((⟨n.No, (⟨(if (W (n.Set.Lo + x13)) < x11.Set then (W (n.Set.Lo + x13)) else x11.Set), (if (W (n.Set.Hi - x15)) > x11.Set then (W (n.Set.Hi - x15)) else x11.Set)⟩ : TRange), (⟨x11.Rise, x11.Rise⟩ : TRange), (⟨(if (W (n.Light.Lo + x17)) < x11.Light then (W (n.Light.Lo + x17)) else x11.Light), x11.Light⟩ : TRange), 1⟩ : TNight)) p.Known _ hx29) ?_
  revert hm
  refine VIf.b (fun h30 hm => ?_) (fun h30 hm => ?_)
  cases hm
  exact RetY.le (leD.refl _)
  revert hm
  refine VIf.b (fun h31 hm => ?_) (fun h31 hm => ?_)
  revert hm
  refine VIf.b (fun h32 hm => ?_) (fun h32 hm => ?_)
  revert hm
  refine VIf.b (fun h33 hm => ?_) (fun h33 hm => ?_)
  cases hm
  exact RetY.le (leD.refl _)
  obtain ⟨⟨x34, x35⟩, hx36, hm⟩ := bd_some hm
  refine CallY.det (d_bylaw_On b_ p.Lamp n p.Known _ hx36) ?_
  obtain ⟨⟨x37, x38⟩, hx39, hm⟩ := bd_some hm
  refine CallY.det (d_bylaw_On b_ p.Lamp ((⟨n.No, (⟨(if (W (n.Set.Lo + x13)) < x11.Set then (W (n.Set.Lo + x13)) else x11.Set), (if (W (n.Set.Hi - x15)) > x11.Set then (W (n.Set.Hi - x15)) else x11.Set)⟩ : TRange), (⟨x11.Rise, x11.Rise⟩ : TRange), (⟨(if (W (n.Light.Lo + x17)) < x11.Light then (W (n.Light.Lo + x17)) else x11.Light), x11.Light⟩ : TRange), 1⟩ : TNight)) p.Known _ hx39) ?_
  revert hm
  refine VIf.b (fun h40 hm => ?_) (fun h40 hm => ?_)
  revert hm
  refine VIf.b (fun h41 hm => ?_) (fun h41 hm => ?_)
  revert hm
  refine VIf.b (fun h42 hm => ?_) (fun h42 hm => ?_)
  cases hm
  exact RetY.le (leD.refl _)
  revert hm
  refine VIf.b (fun h43 hm => ?_) (fun h43 hm => ?_)
  cases hm
  exact RetY.le (leD.refl _)
  revert hm
  refine VIf.b (fun h44 hm => ?_) (fun h44 hm => ?_)
  cases hm
  exact RetY.le (leD.refl _)
  obtain ⟨⟨x45, x46⟩, hx47, hm⟩ := bd_some hm
  refine CallY.det (d_bylaw_Off b_ p.Lamp n p.Known _ hx47) ?_
  obtain ⟨⟨x48, x49⟩, hx50, hm⟩ := bd_some hm
  refine CallY.det (d_bylaw_Off b_ p.Lamp ((⟨n.No, (⟨(if (W (n.Set.Lo + x13)) < x11.Set then (W (n.Set.Lo + x13)) else x11.Set), (if (W (n.Set.Hi - x15)) > x11.Set then (W (n.Set.Hi - x15)) else x11.Set)⟩ : TRange), (⟨x11.Rise, x11.Rise⟩ : TRange), (⟨(if (W (n.Light.Lo + x17)) < x11.Light then (W (n.Light.Lo + x17)) else x11.Light), x11.Light⟩ : TRange), 1⟩ : TNight)) p.Known _ hx50) ?_
  revert hm
  refine VIf.b (fun h51 hm => ?_) (fun h51 hm => ?_)
  obtain ⟨x52, hx53, hm⟩ := bd_some hm
  refine CallY.det (d_L01_sane  _ hx53) ?_
  cases hm
  exact RetY.le (leD.refl _)
  revert hm
  refine VIf.b (fun h54 hm => ?_) (fun h54 hm => ?_)
  obtain ⟨x55, hx56, hm⟩ := bd_some hm
  refine CallY.det (d_L01_sane  _ hx56) ?_
  cases hm
  exact RetY.le (leD.refl _)
  revert hm
  refine VIf.b (fun h57 hm => ?_) (fun h57 hm => ?_)
  revert hm
  refine VIf.b (fun h58 hm => ?_) (fun h58 hm => ?_)
  revert hm
  refine VIf.b (fun h59 hm => ?_) (fun h59 hm => ?_)
  obtain ⟨x60, hx61, hm⟩ := bd_some hm
  refine CallY.det (d_L01_sane  _ hx61) ?_
  cases hm
  exact RetY.le (leD.refl _)
  cases hm
  exact RetY.le (leD.refl _)
  cases hm
  exact RetY.le (leD.refl _)
  cases hm
  exact RetY.le (leD.refl _)
  obtain ⟨⟨x62, x63⟩, hx64, hm⟩ := bd_some hm
  refine CallY.det (d_bylaw_Off b_ p.Lamp n p.Known _ hx64) ?_
  obtain ⟨⟨x65, x66⟩, hx67, hm⟩ := bd_some hm
  refine CallY.det (d_bylaw_Off b_ p.Lamp ((⟨n.No, (⟨(if (W (n.Set.Lo + x13)) < x11.Set then (W (n.Set.Lo + x13)) else x11.Set), (if (W (n.Set.Hi - x15)) > x11.Set then (W (n.Set.Hi - x15)) else x11.Set)⟩ : TRange), (⟨x11.Rise, x11.Rise⟩ : TRange), (⟨(if (W (n.Light.Lo + x17)) < x11.Light then (W (n.Light.Lo + x17)) else x11.Light), x11.Light⟩ : TRange), 1⟩ : TNight)) p.Known _ hx67) ?_
  revert hm
  refine VIf.b (fun h68 hm => ?_) (fun h68 hm => ?_)
  obtain ⟨x69, hx70, hm⟩ := bd_some hm
  refine CallY.det (d_L01_sane  _ hx70) ?_
  cases hm
  exact RetY.le (leD.refl _)
  revert hm
  refine VIf.b (fun h71 hm => ?_) (fun h71 hm => ?_)
  obtain ⟨x72, hx73, hm⟩ := bd_some hm
  refine CallY.det (d_L01_sane  _ hx73) ?_
  cases hm
  exact RetY.le (leD.refl _)
  revert hm
  refine VIf.b (fun h74 hm => ?_) (fun h74 hm => ?_)
  revert hm
  refine VIf.b (fun h75 hm => ?_) (fun h75 hm => ?_)
  revert hm
  refine VIf.b (fun h76 hm => ?_) (fun h76 hm => ?_)
  obtain ⟨x77, hx78, hm⟩ := bd_some hm
  refine CallY.det (d_L01_sane  _ hx78) ?_
  cases hm
  exact RetY.le (leD.refl _)
  cases hm
  exact RetY.le (leD.refl _)
  cases hm
  exact RetY.le (leD.refl _)
  cases hm
  exact RetY.le (leD.refl _)
  obtain ⟨⟨x79, x80⟩, hx81, hm⟩ := bd_some hm
  refine CallY.det (d_bylaw_Off b_ p.Lamp n p.Known _ hx81) ?_
  obtain ⟨⟨x82, x83⟩, hx84, hm⟩ := bd_some hm
  refine CallY.det (d_bylaw_Off b_ p.Lamp ((⟨n.No, (⟨(if (W (n.Set.Lo + x13)) < x11.Set then (W (n.Set.Lo + x13)) else x11.Set), (if (W (n.Set.Hi - x15)) > x11.Set then (W (n.Set.Hi - x15)) else x11.Set)⟩ : TRange), (⟨x11.Rise, x11.Rise⟩ : TRange), (⟨(if (W (n.Light.Lo + x17)) < x11.Light then (W (n.Light.Lo + x17)) else x11.Light), x11.Light⟩ : TRange), 1⟩ : TNight)) p.Known _ hx84) ?_
  revert hm
  refine VIf.b (fun h85 hm => ?_) (fun h85 hm => ?_)
  obtain ⟨x86, hx87, hm⟩ := bd_some hm
  refine CallY.det (d_L01_sane  _ hx87) ?_
  cases hm
  exact RetY.le (leD.refl _)
  revert hm
  refine VIf.b (fun h88 hm => ?_) (fun h88 hm => ?_)
  obtain ⟨x89, hx90, hm⟩ := bd_some hm
  refine CallY.det (d_L01_sane  _ hx90) ?_
  cases hm
  exact RetY.le (leD.refl _)
  revert hm
  refine VIf.b (fun h91 hm => ?_) (fun h91 hm => ?_)
  revert hm
  refine VIf.b (fun h92 hm => ?_) (fun h92 hm => ?_)
  revert hm
  refine VIf.b (fun h93 hm => ?_) (fun h93 hm => ?_)
  obtain ⟨x94, hx95, hm⟩ := bd_some hm
  refine CallY.det (d_L01_sane  _ hx95) ?_
  cases hm
  exact RetY.le (leD.refl _)
  cases hm
  exact RetY.le (leD.refl _)
  cases hm
  exact RetY.le (leD.refl _)
  cases hm
  exact RetY.le (leD.refl _)
  obtain ⟨⟨x96, x97⟩, hx98, hm⟩ := bd_some hm
  refine CallY.det (d_bylaw_On b_ p.Lamp n p.Known _ hx98) ?_
  obtain ⟨⟨x99, x100⟩, hx101, hm⟩ := bd_some hm
  refine CallY.det (d_bylaw_On b_ p.Lamp ((⟨n.No, (⟨(if (W (n.Set.Lo + x13)) < x11.Set then (W (n.Set.Lo + x13)) else x11.Set), (if (W (n.Set.Hi - x15)) > x11.Set then (W (n.Set.Hi - x15)) else x11.Set)⟩ : TRange), (⟨x11.Rise, x11.Rise⟩ : TRange), (⟨(if (W (n.Light.Lo + x17)) < x11.Light then (W (n.Light.Lo + x17)) else x11.Light), x11.Light⟩ : TRange), 1⟩ : TNight)) p.Known _ hx101) ?_
  revert hm
  refine VIf.b (fun h102 hm => ?_) (fun h102 hm => ?_)
  revert hm
  refine VIf.b (fun h103 hm => ?_) (fun h103 hm => ?_)
  revert hm
  refine VIf.b (fun h104 hm => ?_) (fun h104 hm => ?_)
  cases hm
  exact RetY.le (leD.refl _)
  revert hm
  refine VIf.b (fun h105 hm => ?_) (fun h105 hm => ?_)
  cases hm
  exact RetY.le (leD.refl _)
  revert hm
  refine VIf.b (fun h106 hm => ?_) (fun h106 hm => ?_)
  cases hm
  exact RetY.le (leD.refl _)
  obtain ⟨⟨x107, x108⟩, hx109, hm⟩ := bd_some hm
  refine CallY.det (d_bylaw_Off b_ p.Lamp n p.Known _ hx109) ?_
  obtain ⟨⟨x110, x111⟩, hx112, hm⟩ := bd_some hm
  refine CallY.det (d_bylaw_Off b_ p.Lamp ((⟨n.No, (⟨(if (W (n.Set.Lo + x13)) < x11.Set then (W (n.Set.Lo + x13)) else x11.Set), (if (W (n.Set.Hi - x15)) > x11.Set then (W (n.Set.Hi - x15)) else x11.Set)⟩ : TRange), (⟨x11.Rise, x11.Rise⟩ : TRange), (⟨(if (W (n.Light.Lo + x17)) < x11.Light then (W (n.Light.Lo + x17)) else x11.Light), x11.Light⟩ : TRange), 1⟩ : TNight)) p.Known _ hx112) ?_
  revert hm
  refine VIf.b (fun h113 hm => ?_) (fun h113 hm => ?_)
  obtain ⟨x114, hx115, hm⟩ := bd_some hm
  refine CallY.det (d_L01_sane  _ hx115) ?_
  cases hm
  exact RetY.le (leD.refl _)
  revert hm
  refine VIf.b (fun h116 hm => ?_) (fun h116 hm => ?_)
  obtain ⟨x117, hx118, hm⟩ := bd_some hm
  refine CallY.det (d_L01_sane  _ hx118) ?_
  cases hm
  exact RetY.le (leD.refl _)
  revert hm
  refine VIf.b (fun h119 hm => ?_) (fun h119 hm => ?_)
  revert hm
  refine VIf.b (fun h120 hm => ?_) (fun h120 hm => ?_)
  revert hm
  refine VIf.b (fun h121 hm => ?_) (fun h121 hm => ?_)
  obtain ⟨x122, hx123, hm⟩ := bd_some hm
  refine CallY.det (d_L01_sane  _ hx123) ?_
  cases hm
  exact RetY.le (leD.refl _)
  cases hm
  exact RetY.le (leD.refl _)
  cases hm
  exact RetY.le (leD.refl _)
  cases hm
  exact RetY.le (leD.refl _)
  obtain ⟨⟨x124, x125⟩, hx126, hm⟩ := bd_some hm
  refine CallY.det (d_bylaw_Off b_ p.Lamp n p.Known _ hx126) ?_
  obtain ⟨⟨x127, x128⟩, hx129, hm⟩ := bd_some hm
  refine CallY.det (d_bylaw_Off b_ p.Lamp ((⟨n.No, (⟨(if (W (n.Set.Lo + x13)) < x11.Set then (W (n.Set.Lo + x13)) else x11.Set), (if (W (n.Set.Hi - x15)) > x11.Set then (W (n.Set.Hi - x15)) else x11.Set)⟩ : TRange), (⟨x11.Rise, x11.Rise⟩ : TRange), (⟨(if (W (n.Light.Lo + x17)) < x11.Light then (W (n.Light.Lo + x17)) else x11.Light), x11.Light⟩ : TRange), 1⟩ : TNight)) p.Known _ hx129) ?_
  revert hm
  refine VIf.b (fun h130 hm => ?_) (fun h130 hm => ?_)
  obtain ⟨x131, hx132, hm⟩ := bd_some hm
  refine CallY.det (d_L01_sane  _ hx132) ?_
  cases hm
  exact RetY.le (leD.refl _)
  revert hm
  refine VIf.b (fun h133 hm => ?_) (fun h133 hm => ?_)
  obtain ⟨x134, hx135, hm⟩ := bd_some hm
  refine CallY.det (d_L01_sane  _ hx135) ?_
  cases hm
  exact RetY.le (leD.refl _)
  revert hm
  refine VIf.b (fun h136 hm => ?_) (fun h136 hm => ?_)
  revert hm
  refine VIf.b (fun h137 hm => ?_) (fun h137 hm => ?_)
  revert hm
  refine VIf.b (fun h138 hm => ?_) (fun h138 hm => ?_)
  obtain ⟨x139, hx140, hm⟩ := bd_some hm
  refine CallY.det (d_L01_sane  _ hx140) ?_
  cases hm
  exact RetY.le (leD.refl _)
  cases hm
  exact RetY.le (leD.refl _)
  cases hm
  exact RetY.le (leD.refl _)
  cases hm
  exact RetY.le (leD.refl _)
  obtain ⟨⟨x141, x142⟩, hx143, hm⟩ := bd_some hm
  refine CallY.det (d_bylaw_Off b_ p.Lamp n p.Known _ hx143) ?_
  obtain ⟨⟨x144, x145⟩, hx146, hm⟩ := bd_some hm
  refine CallY.det (d_bylaw_Off b_ p.Lamp ((⟨n.No, (⟨(if (W (n.Set.Lo + x13)) < x11.Set then (W (n.Set.Lo + x13)) else x11.Set), (if (W (n.Set.Hi - x15)) > x11.Set then (W (n.Set.Hi - x15)) else x11.Set)⟩ : TRange), (⟨x11.Rise, x11.Rise⟩ : TRange), (⟨(if (W (n.Light.Lo + x17)) < x11.Light then (W (n.Light.Lo + x17)) else x11.Light), x11.Light⟩ : TRange), 1⟩ : TNight)) p.Known _ hx146) ?_
  revert hm
  refine VIf.b (fun h147 hm => ?_) (fun h147 hm => ?_)
  obtain ⟨x148, hx149, hm⟩ := bd_some hm
  refine CallY.det (d_L01_sane  _ hx149) ?_
  cases hm
  exact RetY.le (leD.refl _)
  revert hm
  refine VIf.b (fun h150 hm => ?_) (fun h150 hm => ?_)
  obtain ⟨x151, hx152, hm⟩ := bd_some hm
  refine CallY.det (d_L01_sane  _ hx152) ?_
  cases hm
  exact RetY.le (leD.refl _)
  revert hm
  refine VIf.b (fun h153 hm => ?_) (fun h153 hm => ?_)
  revert hm
  refine VIf.b (fun h154 hm => ?_) (fun h154 hm => ?_)
  revert hm
  refine VIf.b (fun h155 hm => ?_) (fun h155 hm => ?_)
  obtain ⟨x156, hx157, hm⟩ := bd_some hm
  refine CallY.det (d_L01_sane  _ hx157) ?_
  cases hm
  exact RetY.le (leD.refl _)
  cases hm
  exact RetY.le (leD.refl _)
  cases hm
  exact RetY.le (leD.refl _)
  cases hm
  exact RetY.le (leD.refl _)
  obtain ⟨⟨x158, x159⟩, hx160, hm⟩ := bd_some hm
  refine CallY.det (d_bylaw_On b_ p.Lamp n p.Known _ hx160) ?_
  obtain ⟨⟨x161, x162⟩, hx163, hm⟩ := bd_some hm
  refine CallY.det (d_bylaw_On b_ p.Lamp ((⟨n.No, (⟨(if (W (n.Set.Lo + x13)) < x11.Set then (W (n.Set.Lo + x13)) else x11.Set), (if (W (n.Set.Hi - x15)) > x11.Set then (W (n.Set.Hi - x15)) else x11.Set)⟩ : TRange), (⟨x11.Rise, x11.Rise⟩ : TRange), (⟨(if (W (n.Light.Lo + x17)) < x11.Light then (W (n.Light.Lo + x17)) else x11.Light), x11.Light⟩ : TRange), 1⟩ : TNight)) p.Known _ hx163) ?_
  revert hm
  refine VIf.b (fun h164 hm => ?_) (fun h164 hm => ?_)
  revert hm
  refine VIf.b (fun h165 hm => ?_) (fun h165 hm => ?_)
  revert hm
  refine VIf.b (fun h166 hm => ?_) (fun h166 hm => ?_)
  cases hm
  exact RetY.le (leD.refl _)
  revert hm
  refine VIf.b (fun h167 hm => ?_) (fun h167 hm => ?_)
  cases hm
  exact RetY.le (leD.refl _)
  revert hm
  refine VIf.b (fun h168 hm => ?_) (fun h168 hm => ?_)
  cases hm
  exact RetY.le (leD.refl _)
  obtain ⟨⟨x169, x170⟩, hx171, hm⟩ := bd_some hm
  refine CallY.det (d_bylaw_Off b_ p.Lamp n p.Known _ hx171) ?_
  obtain ⟨⟨x172, x173⟩, hx174, hm⟩ := bd_some hm
  refine CallY.det (d_bylaw_Off b_ p.Lamp ((⟨n.No, (⟨(if (W (n.Set.Lo + x13)) < x11.Set then (W (n.Set.Lo + x13)) else x11.Set), (if (W (n.Set.Hi - x15)) > x11.Set then (W (n.Set.Hi - x15)) else x11.Set)⟩ : TRange), (⟨x11.Rise, x11.Rise⟩ : TRange), (⟨(if (W (n.Light.Lo + x17)) < x11.Light then (W (n.Light.Lo + x17)) else x11.Light), x11.Light⟩ : TRange), 1⟩ : TNight)) p.Known _ hx174) ?_
  revert hm
  refine VIf.b (fun h175 hm => ?_) (fun h175 hm => ?_)
  obtain ⟨x176, hx177, hm⟩ := bd_some hm
  refine CallY.det (d_L01_sane  _ hx177) ?_
  cases hm
  exact RetY.le (leD.refl _)
  revert hm
  refine VIf.b (fun h178 hm => ?_) (fun h178 hm => ?_)
  obtain ⟨x179, hx180, hm⟩ := bd_some hm
  refine CallY.det (d_L01_sane  _ hx180) ?_
  cases hm
  exact RetY.le (leD.refl _)
  revert hm
  refine VIf.b (fun h181 hm => ?_) (fun h181 hm => ?_)
  revert hm
  refine VIf.b (fun h182 hm => ?_) (fun h182 hm => ?_)
  revert hm
  refine VIf.b (fun h183 hm => ?_) (fun h183 hm => ?_)
  obtain ⟨x184, hx185, hm⟩ := bd_some hm
  refine CallY.det (d_L01_sane  _ hx185) ?_
  cases hm
  exact RetY.le (leD.refl _)
  cases hm
  exact RetY.le (leD.refl _)
  cases hm
  exact RetY.le (leD.refl _)
  cases hm
  exact RetY.le (leD.refl _)
  obtain ⟨⟨x186, x187⟩, hx188, hm⟩ := bd_some hm
  refine CallY.det (d_bylaw_Off b_ p.Lamp n p.Known _ hx188) ?_
  obtain ⟨⟨x189, x190⟩, hx191, hm⟩ := bd_some hm
  refine CallY.det (d_bylaw_Off b_ p.Lamp ((⟨n.No, (⟨(if (W (n.Set.Lo + x13)) < x11.Set then (W (n.Set.Lo + x13)) else x11.Set), (if (W (n.Set.Hi - x15)) > x11.Set then (W (n.Set.Hi - x15)) else x11.Set)⟩ : TRange), (⟨x11.Rise, x11.Rise⟩ : TRange), (⟨(if (W (n.Light.Lo + x17)) < x11.Light then (W (n.Light.Lo + x17)) else x11.Light), x11.Light⟩ : TRange), 1⟩ : TNight)) p.Known _ hx191) ?_
  revert hm
  refine VIf.b (fun h192 hm => ?_) (fun h192 hm => ?_)
  obtain ⟨x193, hx194, hm⟩ := bd_some hm
  refine CallY.det (d_L01_sane  _ hx194) ?_
  cases hm
  exact RetY.le (leD.refl _)
  revert hm
  refine VIf.b (fun h195 hm => ?_) (fun h195 hm => ?_)
  obtain ⟨x196, hx197, hm⟩ := bd_some hm
  refine CallY.det (d_L01_sane  _ hx197) ?_
  cases hm
  exact RetY.le (leD.refl _)
  revert hm
  refine VIf.b (fun h198 hm => ?_) (fun h198 hm => ?_)
  revert hm
  refine VIf.b (fun h199 hm => ?_) (fun h199 hm => ?_)
  revert hm
  refine VIf.b (fun h200 hm => ?_) (fun h200 hm => ?_)
  obtain ⟨x201, hx202, hm⟩ := bd_some hm
  refine CallY.det (d_L01_sane  _ hx202) ?_
  cases hm
  exact RetY.le (leD.refl _)
  cases hm
  exact RetY.le (leD.refl _)
  cases hm
  exact RetY.le (leD.refl _)
  cases hm
  exact RetY.le (leD.refl _)
  obtain ⟨⟨x203, x204⟩, hx205, hm⟩ := bd_some hm
  refine CallY.det (d_bylaw_Off b_ p.Lamp n p.Known _ hx205) ?_
  obtain ⟨⟨x206, x207⟩, hx208, hm⟩ := bd_some hm
  refine CallY.det (d_bylaw_Off b_ p.Lamp ((⟨n.No, (⟨(if (W (n.Set.Lo + x13)) < x11.Set then (W (n.Set.Lo + x13)) else x11.Set), (if (W (n.Set.Hi - x15)) > x11.Set then (W (n.Set.Hi - x15)) else x11.Set)⟩ : TRange), (⟨x11.Rise, x11.Rise⟩ : TRange), (⟨(if (W (n.Light.Lo + x17)) < x11.Light then (W (n.Light.Lo + x17)) else x11.Light), x11.Light⟩ : TRange), 1⟩ : TNight)) p.Known _ hx208) ?_
  revert hm
  refine VIf.b (fun h209 hm => ?_) (fun h209 hm => ?_)
  obtain ⟨x210, hx211, hm⟩ := bd_some hm
  refine CallY.det (d_L01_sane  _ hx211) ?_
  cases hm
  exact RetY.le (leD.refl _)
  revert hm
  refine VIf.b (fun h212 hm => ?_) (fun h212 hm => ?_)
  obtain ⟨x213, hx214, hm⟩ := bd_some hm
  refine CallY.det (d_L01_sane  _ hx214) ?_
  cases hm
  exact RetY.le (leD.refl _)
  revert hm
  refine VIf.b (fun h215 hm => ?_) (fun h215 hm => ?_)
  revert hm
  refine VIf.b (fun h216 hm => ?_) (fun h216 hm => ?_)
  revert hm
  refine VIf.b (fun h217 hm => ?_) (fun h217 hm => ?_)
  obtain ⟨x218, hx219, hm⟩ := bd_some hm
  refine CallY.det (d_L01_sane  _ hx219) ?_
  cases hm
  exact RetY.le (leD.refl _)
  cases hm
  exact RetY.le (leD.refl _)
  cases hm
  exact RetY.le (leD.refl _)
  cases hm
  exact RetY.le (leD.refl _)
  obtain ⟨⟨x220, x221⟩, hx222, hm⟩ := bd_some hm
  refine CallY.det (d_bylaw_Lit b_ p.Lamp n p.Known _ hx222) ?_
  obtain ⟨⟨x223, x224⟩, hx225, hm⟩ := bd_some hm
  refine CallY.det (d_bylaw_Lit b_ p.Lamp ((⟨n.No, (⟨(if (W (n.Set.Lo + x13)) < x11.Set then (W (n.Set.Lo + x13)) else x11.Set), (if (W (n.Set.Hi - x15)) > x11.Set then (W (n.Set.Hi - x15)) else x11.Set)⟩ : TRange), (⟨x11.Rise, x11.Rise⟩ : TRange), (⟨(if (W (n.Light.Lo + x17)) < x11.Light then (W (n.Light.Lo + x17)) else x11.Light), x11.Light⟩ : TRange), 0⟩ : TNight)) p.Known _ hx225) ?_
  revert hm
  refine VIf.b (fun h226 hm => ?_) (fun h226 hm => ?_)
  cases hm
  exact RetY.le (leD.refl _)
  revert hm
  refine VIf.b (fun h227 hm => ?_) (fun h227 hm => ?_)
  revert hm
  refine VIf.b (fun h228 hm => ?_) (fun h228 hm => ?_)
  revert hm
  refine VIf.b (fun h229 hm => ?_) (fun h229 hm => ?_)
  cases hm
  exact RetY.le (leD.refl _)
  obtain ⟨⟨x230, x231⟩, hx232, hm⟩ := bd_some hm
  refine CallY.det (d_bylaw_On b_ p.Lamp n p.Known _ hx232) ?_
  obtain ⟨⟨x233, x234⟩, hx235, hm⟩ := bd_some hm
  refine CallY.det (d_bylaw_On b_ p.Lamp ((⟨n.No, (⟨(if (W (n.Set.Lo + x13)) < x11.Set then (W (n.Set.Lo + x13)) else x11.Set), (if (W (n.Set.Hi - x15)) > x11.Set then (W (n.Set.Hi - x15)) else x11.Set)⟩ : TRange), (⟨x11.Rise, x11.Rise⟩ : TRange), (⟨(if (W (n.Light.Lo + x17)) < x11.Light then (W (n.Light.Lo + x17)) else x11.Light), x11.Light⟩ : TRange), 0⟩ : TNight)) p.Known _ hx235) ?_
  revert hm
  refine VIf.b (fun h236 hm => ?_) (fun h236 hm => ?_)
  revert hm
  refine VIf.b (fun h237 hm => ?_) (fun h237 hm => ?_)
  revert hm
  refine VIf.b (fun h238 hm => ?_) (fun h238 hm => ?_)
  cases hm
  exact RetY.le (leD.refl _)
  revert hm
  refine VIf.b (fun h239 hm => ?_) (fun h239 hm => ?_)
  cases hm
  exact RetY.le (leD.refl _)
  revert hm
  refine VIf.b (fun h240 hm => ?_) (fun h240 hm => ?_)
  cases hm
  exact RetY.le (leD.refl _)
  obtain ⟨⟨x241, x242⟩, hx243, hm⟩ := bd_some hm
  refine CallY.det (d_bylaw_Off b_ p.Lamp n p.Known _ hx243) ?_
  obtain ⟨⟨x244, x245⟩, hx246, hm⟩ := bd_some hm
  refine CallY.det (d_bylaw_Off b_ p.Lamp ((⟨n.No, (⟨(if (W (n.Set.Lo + x13)) < x11.Set then (W (n.Set.Lo + x13)) else x11.Set), (if (W (n.Set.Hi - x15)) > x11.Set then (W (n.Set.Hi - x15)) else x11.Set)⟩ : TRange), (⟨x11.Rise, x11.Rise⟩ : TRange), (⟨(if (W (n.Light.Lo + x17)) < x11.Light then (W (n.Light.Lo + x17)) else x11.Light), x11.Light⟩ : TRange), 0⟩ : TNight)) p.Known _ hx246) ?_
  revert hm
  refine VIf.b (fun h247 hm => ?_) (fun h247 hm => ?_)
  obtain ⟨x248, hx249, hm⟩ := bd_some hm
  refine CallY.det (d_L01_sane  _ hx249) ?_
  cases hm
  exact RetY.le (leD.refl _)
  revert hm
  refine VIf.b (fun h250 hm => ?_) (fun h250 hm => ?_)
  obtain ⟨x251, hx252, hm⟩ := bd_some hm
  refine CallY.det (d_L01_sane  _ hx252) ?_
  cases hm
  exact RetY.le (leD.refl _)
  revert hm
  refine VIf.b (fun h253 hm => ?_) (fun h253 hm => ?_)
  revert hm
  refine VIf.b (fun h254 hm => ?_) (fun h254 hm => ?_)
  revert hm
  refine VIf.b (fun h255 hm => ?_) (fun h255 hm => ?_)
  obtain ⟨x256, hx257, hm⟩ := bd_some hm
  refine CallY.det (d_L01_sane  _ hx257) ?_
  cases hm
  exact RetY.le (leD.refl _)
  cases hm
  exact RetY.le (leD.refl _)
  cases hm
  exact RetY.le (leD.refl _)
  cases hm
  exact RetY.le (leD.refl _)
  obtain ⟨⟨x258, x259⟩, hx260, hm⟩ := bd_some hm
  refine CallY.det (d_bylaw_Off b_ p.Lamp n p.Known _ hx260) ?_
  obtain ⟨⟨x261, x262⟩, hx263, hm⟩ := bd_some hm
  refine CallY.det (d_bylaw_Off b_ p.Lamp ((⟨n.No, (⟨(if (W (n.Set.Lo + x13)) < x11.Set then (W (n.Set.Lo + x13)) else x11.Set), (if (W (n.Set.Hi - x15)) > x11.Set then (W (n.Set.Hi - x15)) else x11.Set)⟩ : TRange), (⟨x11.Rise, x11.Rise⟩ : TRange), (⟨(if (W (n.Light.Lo + x17)) < x11.Light then (W (n.Light.Lo + x17)) else x11.Light), x11.Light⟩ : TRange), 0⟩ : TNight)) p.Known _ hx263) ?_
  revert hm
  refine VIf.b (fun h264 hm => ?_) (fun h264 hm => ?_)
  obtain ⟨x265, hx266, hm⟩ := bd_some hm
  refine CallY.det (d_L01_sane  _ hx266) ?_
  cases hm
  exact RetY.le (leD.refl _)
  revert hm
  refine VIf.b (fun h267 hm => ?_) (fun h267 hm => ?_)
  obtain ⟨x268, hx269, hm⟩ := bd_some hm
  refine CallY.det (d_L01_sane  _ hx269) ?_
  cases hm
  exact RetY.le (leD.refl _)
  revert hm
  refine VIf.b (fun h270 hm => ?_) (fun h270 hm => ?_)
  revert hm
  refine VIf.b (fun h271 hm => ?_) (fun h271 hm => ?_)
  revert hm
  refine VIf.b (fun h272 hm => ?_) (fun h272 hm => ?_)
  obtain ⟨x273, hx274, hm⟩ := bd_some hm
  refine CallY.det (d_L01_sane  _ hx274) ?_
  cases hm
  exact RetY.le (leD.refl _)
  cases hm
  exact RetY.le (leD.refl _)
  cases hm
  exact RetY.le (leD.refl _)
  cases hm
  exact RetY.le (leD.refl _)
  obtain ⟨⟨x275, x276⟩, hx277, hm⟩ := bd_some hm
  refine CallY.det (d_bylaw_Off b_ p.Lamp n p.Known _ hx277) ?_
  obtain ⟨⟨x278, x279⟩, hx280, hm⟩ := bd_some hm
  refine CallY.det (d_bylaw_Off b_ p.Lamp ((⟨n.No, (⟨(if (W (n.Set.Lo + x13)) < x11.Set then (W (n.Set.Lo + x13)) else x11.Set), (if (W (n.Set.Hi - x15)) > x11.Set then (W (n.Set.Hi - x15)) else x11.Set)⟩ : TRange), (⟨x11.Rise, x11.Rise⟩ : TRange), (⟨(if (W (n.Light.Lo + x17)) < x11.Light then (W (n.Light.Lo + x17)) else x11.Light), x11.Light⟩ : TRange), 0⟩ : TNight)) p.Known _ hx280) ?_
  revert hm
  refine VIf.b (fun h281 hm => ?_) (fun h281 hm => ?_)
  obtain ⟨x282, hx283, hm⟩ := bd_some hm
  refine CallY.det (d_L01_sane  _ hx283) ?_
  cases hm
  exact RetY.le (leD.refl _)
  revert hm
  refine VIf.b (fun h284 hm => ?_) (fun h284 hm => ?_)
  obtain ⟨x285, hx286, hm⟩ := bd_some hm
  refine CallY.det (d_L01_sane  _ hx286) ?_
  cases hm
  exact RetY.le (leD.refl _)
  revert hm
  refine VIf.b (fun h287 hm => ?_) (fun h287 hm => ?_)
  revert hm
  refine VIf.b (fun h288 hm => ?_) (fun h288 hm => ?_)
  revert hm
  refine VIf.b (fun h289 hm => ?_) (fun h289 hm => ?_)
  obtain ⟨x290, hx291, hm⟩ := bd_some hm
  refine CallY.det (d_L01_sane  _ hx291) ?_
  cases hm
  exact RetY.le (leD.refl _)
  cases hm
  exact RetY.le (leD.refl _)
  cases hm
  exact RetY.le (leD.refl _)
  cases hm
  exact RetY.le (leD.refl _)
  obtain ⟨⟨x292, x293⟩, hx294, hm⟩ := bd_some hm
  refine CallY.det (d_bylaw_On b_ p.Lamp n p.Known _ hx294) ?_
  obtain ⟨⟨x295, x296⟩, hx297, hm⟩ := bd_some hm
  refine CallY.det (d_bylaw_On b_ p.Lamp ((⟨n.No, (⟨(if (W (n.Set.Lo + x13)) < x11.Set then (W (n.Set.Lo + x13)) else x11.Set), (if (W (n.Set.Hi - x15)) > x11.Set then (W (n.Set.Hi - x15)) else x11.Set)⟩ : TRange), (⟨x11.Rise, x11.Rise⟩ : TRange), (⟨(if (W (n.Light.Lo + x17)) < x11.Light then (W (n.Light.Lo + x17)) else x11.Light), x11.Light⟩ : TRange), 0⟩ : TNight)) p.Known _ hx297) ?_
  revert hm
  refine VIf.b (fun h298 hm => ?_) (fun h298 hm => ?_)
  revert hm
  refine VIf.b (fun h299 hm => ?_) (fun h299 hm => ?_)
  revert hm
  refine VIf.b (fun h300 hm => ?_) (fun h300 hm => ?_)
  cases hm
  exact RetY.le (leD.refl _)
  revert hm
  refine VIf.b (fun h301 hm => ?_) (fun h301 hm => ?_)
  cases hm
  exact RetY.le (leD.refl _)
  revert hm
  refine VIf.b (fun h302 hm => ?_) (fun h302 hm => ?_)
  cases hm
  exact RetY.le (leD.refl _)
  obtain ⟨⟨x303, x304⟩, hx305, hm⟩ := bd_some hm
  refine CallY.det (d_bylaw_Off b_ p.Lamp n p.Known _ hx305) ?_
  obtain ⟨⟨x306, x307⟩, hx308, hm⟩ := bd_some hm
  refine CallY.det (d_bylaw_Off b_ p.Lamp ((⟨n.No, (⟨(if (W (n.Set.Lo + x13)) < x11.Set then (W (n.Set.Lo + x13)) else x11.Set), (if (W (n.Set.Hi - x15)) > x11.Set then (W (n.Set.Hi - x15)) else x11.Set)⟩ : TRange), (⟨x11.Rise, x11.Rise⟩ : TRange), (⟨(if (W (n.Light.Lo + x17)) < x11.Light then (W (n.Light.Lo + x17)) else x11.Light), x11.Light⟩ : TRange), 0⟩ : TNight)) p.Known _ hx308) ?_
  revert hm
  refine VIf.b (fun h309 hm => ?_) (fun h309 hm => ?_)
  obtain ⟨x310, hx311, hm⟩ := bd_some hm
  refine CallY.det (d_L01_sane  _ hx311) ?_
  cases hm
  exact RetY.le (leD.refl _)
  revert hm
  refine VIf.b (fun h312 hm => ?_) (fun h312 hm => ?_)
  obtain ⟨x313, hx314, hm⟩ := bd_some hm
  refine CallY.det (d_L01_sane  _ hx314) ?_
  cases hm
  exact RetY.le (leD.refl _)
  revert hm
  refine VIf.b (fun h315 hm => ?_) (fun h315 hm => ?_)
  revert hm
  refine VIf.b (fun h316 hm => ?_) (fun h316 hm => ?_)
  revert hm
  refine VIf.b (fun h317 hm => ?_) (fun h317 hm => ?_)
  obtain ⟨x318, hx319, hm⟩ := bd_some hm
  refine CallY.det (d_L01_sane  _ hx319) ?_
  cases hm
  exact RetY.le (leD.refl _)
  cases hm
  exact RetY.le (leD.refl _)
  cases hm
  exact RetY.le (leD.refl _)
  cases hm
  exact RetY.le (leD.refl _)
  obtain ⟨⟨x320, x321⟩, hx322, hm⟩ := bd_some hm
  refine CallY.det (d_bylaw_Off b_ p.Lamp n p.Known _ hx322) ?_
  obtain ⟨⟨x323, x324⟩, hx325, hm⟩ := bd_some hm
  refine CallY.det (d_bylaw_Off b_ p.Lamp ((⟨n.No, (⟨(if (W (n.Set.Lo + x13)) < x11.Set then (W (n.Set.Lo + x13)) else x11.Set), (if (W (n.Set.Hi - x15)) > x11.Set then (W (n.Set.Hi - x15)) else x11.Set)⟩ : TRange), (⟨x11.Rise, x11.Rise⟩ : TRange), (⟨(if (W (n.Light.Lo + x17)) < x11.Light then (W (n.Light.Lo + x17)) else x11.Light), x11.Light⟩ : TRange), 0⟩ : TNight)) p.Known _ hx325) ?_
  revert hm
  refine VIf.b (fun h326 hm => ?_) (fun h326 hm => ?_)
  obtain ⟨x327, hx328, hm⟩ := bd_some hm
  refine CallY.det (d_L01_sane  _ hx328) ?_
  cases hm
  exact RetY.le (leD.refl _)
  revert hm
  refine VIf.b (fun h329 hm => ?_) (fun h329 hm => ?_)
  obtain ⟨x330, hx331, hm⟩ := bd_some hm
  refine CallY.det (d_L01_sane  _ hx331) ?_
  cases hm
  exact RetY.le (leD.refl _)
  revert hm
  refine VIf.b (fun h332 hm => ?_) (fun h332 hm => ?_)
  revert hm
  refine VIf.b (fun h333 hm => ?_) (fun h333 hm => ?_)
  revert hm
  refine VIf.b (fun h334 hm => ?_) (fun h334 hm => ?_)
  obtain ⟨x335, hx336, hm⟩ := bd_some hm
  refine CallY.det (d_L01_sane  _ hx336) ?_
  cases hm
  exact RetY.le (leD.refl _)
  cases hm
  exact RetY.le (leD.refl _)
  cases hm
  exact RetY.le (leD.refl _)
  cases hm
  exact RetY.le (leD.refl _)
  obtain ⟨⟨x337, x338⟩, hx339, hm⟩ := bd_some hm
  refine CallY.det (d_bylaw_Off b_ p.Lamp n p.Known _ hx339) ?_
  obtain ⟨⟨x340, x341⟩, hx342, hm⟩ := bd_some hm
  refine CallY.det (d_bylaw_Off b_ p.Lamp ((⟨n.No, (⟨(if (W (n.Set.Lo + x13)) < x11.Set then (W (n.Set.Lo + x13)) else x11.Set), (if (W (n.Set.Hi - x15)) > x11.Set then (W (n.Set.Hi - x15)) else x11.Set)⟩ : TRange), (⟨x11.Rise, x11.Rise⟩ : TRange), (⟨(if (W (n.Light.Lo + x17)) < x11.Light then (W (n.Light.Lo + x17)) else x11.Light), x11.Light⟩ : TRange), 0⟩ : TNight)) p.Known _ hx342) ?_
  revert hm
  refine VIf.b (fun h343 hm => ?_) (fun h343 hm => ?_)
  obtain ⟨x344, hx345, hm⟩ := bd_some hm
  refine CallY.det (d_L01_sane  _ hx345) ?_
  cases hm
  exact RetY.le (leD.refl _)
  revert hm
  refine VIf.b (fun h346 hm => ?_) (fun h346 hm => ?_)
  obtain ⟨x347, hx348, hm⟩ := bd_some hm
  refine CallY.det (d_L01_sane  _ hx348) ?_
  cases hm
  exact RetY.le (leD.refl _)
  revert hm
  refine VIf.b (fun h349 hm => ?_) (fun h349 hm => ?_)
  revert hm
  refine VIf.b (fun h350 hm => ?_) (fun h350 hm => ?_)
  revert hm
  refine VIf.b (fun h351 hm => ?_) (fun h351 hm => ?_)
  obtain ⟨x352, hx353, hm⟩ := bd_some hm
  refine CallY.det (d_L01_sane  _ hx353) ?_
  cases hm
  exact RetY.le (leD.refl _)
  cases hm
  exact RetY.le (leD.refl _)
  cases hm
  exact RetY.le (leD.refl _)
  cases hm
  exact RetY.le (leD.refl _)
  obtain ⟨⟨x354, x355⟩, hx356, hm⟩ := bd_some hm
  refine CallY.det (d_bylaw_On b_ p.Lamp n p.Known _ hx356) ?_
  obtain ⟨⟨x357, x358⟩, hx359, hm⟩ := bd_some hm
  refine CallY.det (d_bylaw_On b_ p.Lamp ((⟨n.No, (⟨(if (W (n.Set.Lo + x13)) < x11.Set then (W (n.Set.Lo + x13)) else x11.Set), (if (W (n.Set.Hi - x15)) > x11.Set then (W (n.Set.Hi - x15)) else x11.Set)⟩ : TRange), (⟨x11.Rise, x11.Rise⟩ : TRange), (⟨(if (W (n.Light.Lo + x17)) < x11.Light then (W (n.Light.Lo + x17)) else x11.Light), x11.Light⟩ : TRange), 0⟩ : TNight)) p.Known _ hx359) ?_
  revert hm
  refine VIf.b (fun h360 hm => ?_) (fun h360 hm => ?_)
  revert hm
  refine VIf.b (fun h361 hm => ?_) (fun h361 hm => ?_)
  revert hm
  refine VIf.b (fun h362 hm => ?_) (fun h362 hm => ?_)
  cases hm
  exact RetY.le (leD.refl _)
  revert hm
  refine VIf.b (fun h363 hm => ?_) (fun h363 hm => ?_)
  cases hm
  exact RetY.le (leD.refl _)
  revert hm
  refine VIf.b (fun h364 hm => ?_) (fun h364 hm => ?_)
  cases hm
  exact RetY.le (leD.refl _)
  obtain ⟨⟨x365, x366⟩, hx367, hm⟩ := bd_some hm
  refine CallY.det (d_bylaw_Off b_ p.Lamp n p.Known _ hx367) ?_
  obtain ⟨⟨x368, x369⟩, hx370, hm⟩ := bd_some hm
  refine CallY.det (d_bylaw_Off b_ p.Lamp ((⟨n.No, (⟨(if (W (n.Set.Lo + x13)) < x11.Set then (W (n.Set.Lo + x13)) else x11.Set), (if (W (n.Set.Hi - x15)) > x11.Set then (W (n.Set.Hi - x15)) else x11.Set)⟩ : TRange), (⟨x11.Rise, x11.Rise⟩ : TRange), (⟨(if (W (n.Light.Lo + x17)) < x11.Light then (W (n.Light.Lo + x17)) else x11.Light), x11.Light⟩ : TRange), 0⟩ : TNight)) p.Known _ hx370) ?_
  revert hm
  refine VIf.b (fun h371 hm => ?_) (fun h371 hm => ?_)
  obtain ⟨x372, hx373, hm⟩ := bd_some hm
  refine CallY.det (d_L01_sane  _ hx373) ?_
  cases hm
  exact RetY.le (leD.refl _)
  revert hm
  refine VIf.b (fun h374 hm => ?_) (fun h374 hm => ?_)
  obtain ⟨x375, hx376, hm⟩ := bd_some hm
  refine CallY.det (d_L01_sane  _ hx376) ?_
  cases hm
  exact RetY.le (leD.refl _)
  revert hm
  refine VIf.b (fun h377 hm => ?_) (fun h377 hm => ?_)
  revert hm
  refine VIf.b (fun h378 hm => ?_) (fun h378 hm => ?_)
  revert hm
  refine VIf.b (fun h379 hm => ?_) (fun h379 hm => ?_)
  obtain ⟨x380, hx381, hm⟩ := bd_some hm
  refine CallY.det (d_L01_sane  _ hx381) ?_
  cases hm
  exact RetY.le (leD.refl _)
  cases hm
  exact RetY.le (leD.refl _)
  cases hm
  exact RetY.le (leD.refl _)
  cases hm
  exact RetY.le (leD.refl _)
  obtain ⟨⟨x382, x383⟩, hx384, hm⟩ := bd_some hm
  refine CallY.det (d_bylaw_Off b_ p.Lamp n p.Known _ hx384) ?_
  obtain ⟨⟨x385, x386⟩, hx387, hm⟩ := bd_some hm
  refine CallY.det (d_bylaw_Off b_ p.Lamp ((⟨n.No, (⟨(if (W (n.Set.Lo + x13)) < x11.Set then (W (n.Set.Lo + x13)) else x11.Set), (if (W (n.Set.Hi - x15)) > x11.Set then (W (n.Set.Hi - x15)) else x11.Set)⟩ : TRange), (⟨x11.Rise, x11.Rise⟩ : TRange), (⟨(if (W (n.Light.Lo + x17)) < x11.Light then (W (n.Light.Lo + x17)) else x11.Light), x11.Light⟩ : TRange), 0⟩ : TNight)) p.Known _ hx387) ?_
  revert hm
  refine VIf.b (fun h388 hm => ?_) (fun h388 hm => ?_)
  obtain ⟨x389, hx390, hm⟩ := bd_some hm
  refine CallY.det (d_L01_sane  _ hx390) ?_
  cases hm
  exact RetY.le (leD.refl _)
  revert hm
  refine VIf.b (fun h391 hm => ?_) (fun h391 hm => ?_)
  obtain ⟨x392, hx393, hm⟩ := bd_some hm
  refine CallY.det (d_L01_sane  _ hx393) ?_
  cases hm
  exact RetY.le (leD.refl _)
  revert hm
  refine VIf.b (fun h394 hm => ?_) (fun h394 hm => ?_)
  revert hm
  refine VIf.b (fun h395 hm => ?_) (fun h395 hm => ?_)
  revert hm
  refine VIf.b (fun h396 hm => ?_) (fun h396 hm => ?_)
  obtain ⟨x397, hx398, hm⟩ := bd_some hm
  refine CallY.det (d_L01_sane  _ hx398) ?_
  cases hm
  exact RetY.le (leD.refl _)
  cases hm
  exact RetY.le (leD.refl _)
  cases hm
  exact RetY.le (leD.refl _)
  cases hm
  exact RetY.le (leD.refl _)
  obtain ⟨⟨x399, x400⟩, hx401, hm⟩ := bd_some hm
  refine CallY.det (d_bylaw_Off b_ p.Lamp n p.Known _ hx401) ?_
  obtain ⟨⟨x402, x403⟩, hx404, hm⟩ := bd_some hm
  refine CallY.det (d_bylaw_Off b_ p.Lamp ((⟨n.No, (⟨(if (W (n.Set.Lo + x13)) < x11.Set then (W (n.Set.Lo + x13)) else x11.Set), (if (W (n.Set.Hi - x15)) > x11.Set then (W (n.Set.Hi - x15)) else x11.Set)⟩ : TRange), (⟨x11.Rise, x11.Rise⟩ : TRange), (⟨(if (W (n.Light.Lo + x17)) < x11.Light then (W (n.Light.Lo + x17)) else x11.Light), x11.Light⟩ : TRange), 0⟩ : TNight)) p.Known _ hx404) ?_
  revert hm
  refine VIf.b (fun h405 hm => ?_) (fun h405 hm => ?_)
  obtain ⟨x406, hx407, hm⟩ := bd_some hm
  refine CallY.det (d_L01_sane  _ hx407) ?_
  cases hm
  exact RetY.le (leD.refl _)
  revert hm
  refine VIf.b (fun h408 hm => ?_) (fun h408 hm => ?_)
  obtain ⟨x409, hx410, hm⟩ := bd_some hm
  refine CallY.det (d_L01_sane  _ hx410) ?_
  cases hm
  exact RetY.le (leD.refl _)
  revert hm
  refine VIf.b (fun h411 hm => ?_) (fun h411 hm => ?_)
  revert hm
  refine VIf.b (fun h412 hm => ?_) (fun h412 hm => ?_)
  revert hm
  refine VIf.b (fun h413 hm => ?_) (fun h413 hm => ?_)
  obtain ⟨x414, hx415, hm⟩ := bd_some hm
  refine CallY.det (d_L01_sane  _ hx415) ?_
  cases hm
  exact RetY.le (leD.refl _)
  cases hm
  exact RetY.le (leD.refl _)
  cases hm
  exact RetY.le (leD.refl _)
  cases hm
  exact RetY.le (leD.refl _)
  obtain ⟨⟨x416, x417⟩, hx418, hm⟩ := bd_some hm
  refine CallY.det (d_bylaw_Lit b_ p.Lamp n p.Known _ hx418) ?_
  obtain ⟨⟨x419, x420⟩, hx421, hm⟩ := bd_some hm
  refine CallY.det (d_bylaw_Lit b_ p.Lamp ((⟨n.No, (⟨(if (W (n.Set.Lo + x13)) < x11.Set then (W (n.Set.Lo + x13)) else x11.Set), (if (W (n.Set.Hi - x15)) > x11.Set then (W (n.Set.Hi - x15)) else x11.Set)⟩ : TRange), (⟨x11.Rise, x11.Rise⟩ : TRange), (⟨(if (W (n.Light.Lo + x17)) < x11.Light then (W (n.Light.Lo + x17)) else x11.Light), x11.Light⟩ : TRange), n.Fog⟩ : TNight)) p.Known _ hx421) ?_
  revert hm
  refine VIf.b (fun h422 hm => ?_) (fun h422 hm => ?_)
  cases hm
  exact RetY.le (leD.refl _)
  revert hm
  refine VIf.b (fun h423 hm => ?_) (fun h423 hm => ?_)
  revert hm
  refine VIf.b (fun h424 hm => ?_) (fun h424 hm => ?_)
  revert hm
  refine VIf.b (fun h425 hm => ?_) (fun h425 hm => ?_)
  cases hm
  exact RetY.le (leD.refl _)
  obtain ⟨⟨x426, x427⟩, hx428, hm⟩ := bd_some hm
  refine CallY.det (d_bylaw_On b_ p.Lamp n p.Known _ hx428) ?_
  obtain ⟨⟨x429, x430⟩, hx431, hm⟩ := bd_some hm
  refine CallY.det (d_bylaw_On b_ p.Lamp ((⟨n.No, (⟨(if (W (n.Set.Lo + x13)) < x11.Set then (W (n.Set.Lo + x13)) else x11.Set), (if (W (n.Set.Hi - x15)) > x11.Set then (W (n.Set.Hi - x15)) else x11.Set)⟩ : TRange), (⟨x11.Rise, x11.Rise⟩ : TRange), (⟨(if (W (n.Light.Lo + x17)) < x11.Light then (W (n.Light.Lo + x17)) else x11.Light), x11.Light⟩ : TRange), n.Fog⟩ : TNight)) p.Known _ hx431) ?_
  revert hm
  refine VIf.b (fun h432 hm => ?_) (fun h432 hm => ?_)
  revert hm
  refine VIf.b (fun h433 hm => ?_) (fun h433 hm => ?_)
  revert hm
  refine VIf.b (fun h434 hm => ?_) (fun h434 hm => ?_)
  cases hm
  exact RetY.le (leD.refl _)
  revert hm
  refine VIf.b (fun h435 hm => ?_) (fun h435 hm => ?_)
  cases hm
  exact RetY.le (leD.refl _)
  revert hm
  refine VIf.b (fun h436 hm => ?_) (fun h436 hm => ?_)
  cases hm
  exact RetY.le (leD.refl _)
  obtain ⟨⟨x437, x438⟩, hx439, hm⟩ := bd_some hm
  refine CallY.det (d_bylaw_Off b_ p.Lamp n p.Known _ hx439) ?_
  obtain ⟨⟨x440, x441⟩, hx442, hm⟩ := bd_some hm
  refine CallY.det (d_bylaw_Off b_ p.Lamp ((⟨n.No, (⟨(if (W (n.Set.Lo + x13)) < x11.Set then (W (n.Set.Lo + x13)) else x11.Set), (if (W (n.Set.Hi - x15)) > x11.Set then (W (n.Set.Hi - x15)) else x11.Set)⟩ : TRange), (⟨x11.Rise, x11.Rise⟩ : TRange), (⟨(if (W (n.Light.Lo + x17)) < x11.Light then (W (n.Light.Lo + x17)) else x11.Light), x11.Light⟩ : TRange), n.Fog⟩ : TNight)) p.Known _ hx442) ?_
  revert hm
  refine VIf.b (fun h443 hm => ?_) (fun h443 hm => ?_)
  obtain ⟨x444, hx445, hm⟩ := bd_some hm
  refine CallY.det (d_L01_sane  _ hx445) ?_
  cases hm
  exact RetY.le (leD.refl _)
  revert hm
  refine VIf.b (fun h446 hm => ?_) (fun h446 hm => ?_)
  obtain ⟨x447, hx448, hm⟩ := bd_some hm
  refine CallY.det (d_L01_sane  _ hx448) ?_
  cases hm
  exact RetY.le (leD.refl _)
  revert hm
  refine VIf.b (fun h449 hm => ?_) (fun h449 hm => ?_)
  revert hm
  refine VIf.b (fun h450 hm => ?_) (fun h450 hm => ?_)
  revert hm
  refine VIf.b (fun h451 hm => ?_) (fun h451 hm => ?_)
  obtain ⟨x452, hx453, hm⟩ := bd_some hm
  refine CallY.det (d_L01_sane  _ hx453) ?_
  cases hm
  exact RetY.le (leD.refl _)
  cases hm
  exact RetY.le (leD.refl _)
  cases hm
  exact RetY.le (leD.refl _)
  cases hm
  exact RetY.le (leD.refl _)
  obtain ⟨⟨x454, x455⟩, hx456, hm⟩ := bd_some hm
  refine CallY.det (d_bylaw_Off b_ p.Lamp n p.Known _ hx456) ?_
  obtain ⟨⟨x457, x458⟩, hx459, hm⟩ := bd_some hm
  refine CallY.det (d_bylaw_Off b_ p.Lamp ((⟨n.No, (⟨(if (W (n.Set.Lo + x13)) < x11.Set then (W (n.Set.Lo + x13)) else x11.Set), (if (W (n.Set.Hi - x15)) > x11.Set then (W (n.Set.Hi - x15)) else x11.Set)⟩ : TRange), (⟨x11.Rise, x11.Rise⟩ : TRange), (⟨(if (W (n.Light.Lo + x17)) < x11.Light then (W (n.Light.Lo + x17)) else x11.Light), x11.Light⟩ : TRange), n.Fog⟩ : TNight)) p.Known _ hx459) ?_
  revert hm
  refine VIf.b (fun h460 hm => ?_) (fun h460 hm => ?_)
  obtain ⟨x461, hx462, hm⟩ := bd_some hm
  refine CallY.det (d_L01_sane  _ hx462) ?_
  cases hm
  exact RetY.le (leD.refl _)
  revert hm
  refine VIf.b (fun h463 hm => ?_) (fun h463 hm => ?_)
  obtain ⟨x464, hx465, hm⟩ := bd_some hm
  refine CallY.det (d_L01_sane  _ hx465) ?_
  cases hm
  exact RetY.le (leD.refl _)
  revert hm
  refine VIf.b (fun h466 hm => ?_) (fun h466 hm => ?_)
  revert hm
  refine VIf.b (fun h467 hm => ?_) (fun h467 hm => ?_)
  revert hm
  refine VIf.b (fun h468 hm => ?_) (fun h468 hm => ?_)
  obtain ⟨x469, hx470, hm⟩ := bd_some hm
  refine CallY.det (d_L01_sane  _ hx470) ?_
  cases hm
  exact RetY.le (leD.refl _)
  cases hm
  exact RetY.le (leD.refl _)
  cases hm
  exact RetY.le (leD.refl _)
  cases hm
  exact RetY.le (leD.refl _)
  obtain ⟨⟨x471, x472⟩, hx473, hm⟩ := bd_some hm
  refine CallY.det (d_bylaw_Off b_ p.Lamp n p.Known _ hx473) ?_
  obtain ⟨⟨x474, x475⟩, hx476, hm⟩ := bd_some hm
  refine CallY.det (d_bylaw_Off b_ p.Lamp ((⟨n.No, (⟨(if (W (n.Set.Lo + x13)) < x11.Set then (W (n.Set.Lo + x13)) else x11.Set), (if (W (n.Set.Hi - x15)) > x11.Set then (W (n.Set.Hi - x15)) else x11.Set)⟩ : TRange), (⟨x11.Rise, x11.Rise⟩ : TRange), (⟨(if (W (n.Light.Lo + x17)) < x11.Light then (W (n.Light.Lo + x17)) else x11.Light), x11.Light⟩ : TRange), n.Fog⟩ : TNight)) p.Known _ hx476) ?_
  revert hm
  refine VIf.b (fun h477 hm => ?_) (fun h477 hm => ?_)
  obtain ⟨x478, hx479, hm⟩ := bd_some hm
  refine CallY.det (d_L01_sane  _ hx479) ?_
  cases hm
  exact RetY.le (leD.refl _)
  revert hm
  refine VIf.b (fun h480 hm => ?_) (fun h480 hm => ?_)
  obtain ⟨x481, hx482, hm⟩ := bd_some hm
  refine CallY.det (d_L01_sane  _ hx482) ?_
  cases hm
  exact RetY.le (leD.refl _)
  revert hm
  refine VIf.b (fun h483 hm => ?_) (fun h483 hm => ?_)
  revert hm
  refine VIf.b (fun h484 hm => ?_) (fun h484 hm => ?_)
  revert hm
  refine VIf.b (fun h485 hm => ?_) (fun h485 hm => ?_)
  obtain ⟨x486, hx487, hm⟩ := bd_some hm
  refine CallY.det (d_L01_sane  _ hx487) ?_
  cases hm
  exact RetY.le (leD.refl _)
  cases hm
  exact RetY.le (leD.refl _)
  cases hm
  exact RetY.le (leD.refl _)
  cases hm
  exact RetY.le (leD.refl _)
  obtain ⟨⟨x488, x489⟩, hx490, hm⟩ := bd_some hm
  refine CallY.det (d_bylaw_On b_ p.Lamp n p.Known _ hx490) ?_
  obtain ⟨⟨x491, x492⟩, hx493, hm⟩ := bd_some hm
  refine CallY.det (d_bylaw_On b_ p.Lamp ((⟨n.No, (⟨(if (W (n.Set.Lo + x13)) < x11.Set then (W (n.Set.Lo + x13)) else x11.Set), (if (W (n.Set.Hi - x15)) > x11.Set then (W (n.Set.Hi - x15)) else x11.Set)⟩ : TRange), (⟨x11.Rise, x11.Rise⟩ : TRange), (⟨(if (W (n.Light.Lo + x17)) < x11.Light then (W (n.Light.Lo + x17)) else x11.Light), x11.Light⟩ : TRange), n.Fog⟩ : TNight)) p.Known _ hx493) ?_
  revert hm
  refine VIf.b (fun h494 hm => ?_) (fun h494 hm => ?_)
  revert hm
  refine VIf.b (fun h495 hm => ?_) (fun h495 hm => ?_)
  revert hm
  refine VIf.b (fun h496 hm => ?_) (fun h496 hm => ?_)
  cases hm
  exact RetY.le (leD.refl _)
  revert hm
  refine VIf.b (fun h497 hm => ?_) (fun h497 hm => ?_)
  cases hm
  exact RetY.le (leD.refl _)
  revert hm
  refine VIf.b (fun h498 hm => ?_) (fun h498 hm => ?_)
  cases hm
  exact RetY.le (leD.refl _)
  obtain ⟨⟨x499, x500⟩, hx501, hm⟩ := bd_some hm
  refine CallY.det (d_bylaw_Off b_ p.Lamp n p.Known _ hx501) ?_
  obtain ⟨⟨x502, x503⟩, hx504, hm⟩ := bd_some hm
  refine CallY.det (d_bylaw_Off b_ p.Lamp ((⟨n.No, (⟨(if (W (n.Set.Lo + x13)) < x11.Set then (W (n.Set.Lo + x13)) else x11.Set), (if (W (n.Set.Hi - x15)) > x11.Set then (W (n.Set.Hi - x15)) else x11.Set)⟩ : TRange), (⟨x11.Rise, x11.Rise⟩ : TRange), (⟨(if (W (n.Light.Lo + x17)) < x11.Light then (W (n.Light.Lo + x17)) else x11.Light), x11.Light⟩ : TRange), n.Fog⟩ : TNight)) p.Known _ hx504) ?_
  revert hm
  refine VIf.b (fun h505 hm => ?_) (fun h505 hm => ?_)
  obtain ⟨x506, hx507, hm⟩ := bd_some hm
  refine CallY.det (d_L01_sane  _ hx507) ?_
  cases hm
  exact RetY.le (leD.refl _)
  revert hm
  refine VIf.b (fun h508 hm => ?_) (fun h508 hm => ?_)
  obtain ⟨x509, hx510, hm⟩ := bd_some hm
  refine CallY.det (d_L01_sane  _ hx510) ?_
  cases hm
  exact RetY.le (leD.refl _)
  revert hm
  refine VIf.b (fun h511 hm => ?_) (fun h511 hm => ?_)
  revert hm
  refine VIf.b (fun h512 hm => ?_) (fun h512 hm => ?_)
  revert hm
  refine VIf.b (fun h513 hm => ?_) (fun h513 hm => ?_)
  obtain ⟨x514, hx515, hm⟩ := bd_some hm
  refine CallY.det (d_L01_sane  _ hx515) ?_
  cases hm
  exact RetY.le (leD.refl _)
  cases hm
  exact RetY.le (leD.refl _)
  cases hm
  exact RetY.le (leD.refl _)
  cases hm
  exact RetY.le (leD.refl _)
  obtain ⟨⟨x516, x517⟩, hx518, hm⟩ := bd_some hm
  refine CallY.det (d_bylaw_Off b_ p.Lamp n p.Known _ hx518) ?_
  obtain ⟨⟨x519, x520⟩, hx521, hm⟩ := bd_some hm
  refine CallY.det (d_bylaw_Off b_ p.Lamp ((⟨n.No, (⟨(if (W (n.Set.Lo + x13)) < x11.Set then (W (n.Set.Lo + x13)) else x11.Set), (if (W (n.Set.Hi - x15)) > x11.Set then (W (n.Set.Hi - x15)) else x11.Set)⟩ : TRange), (⟨x11.Rise, x11.Rise⟩ : TRange), (⟨(if (W (n.Light.Lo + x17)) < x11.Light then (W (n.Light.Lo + x17)) else x11.Light), x11.Light⟩ : TRange), n.Fog⟩ : TNight)) p.Known _ hx521) ?_
  revert hm
  refine VIf.b (fun h522 hm => ?_) (fun h522 hm => ?_)
  obtain ⟨x523, hx524, hm⟩ := bd_some hm
  refine CallY.det (d_L01_sane  _ hx524) ?_
  cases hm
  exact RetY.le (leD.refl _)
  revert hm
  refine VIf.b (fun h525 hm => ?_) (fun h525 hm => ?_)
  obtain ⟨x526, hx527, hm⟩ := bd_some hm
  refine CallY.det (d_L01_sane  _ hx527) ?_
  cases hm
  exact RetY.le (leD.refl _)
  revert hm
  refine VIf.b (fun h528 hm => ?_) (fun h528 hm => ?_)
  revert hm
  refine VIf.b (fun h529 hm => ?_) (fun h529 hm => ?_)
  revert hm
  refine VIf.b (fun h530 hm => ?_) (fun h530 hm => ?_)
  obtain ⟨x531, hx532, hm⟩ := bd_some hm
  refine CallY.det (d_L01_sane  _ hx532) ?_
  cases hm
  exact RetY.le (leD.refl _)
  cases hm
  exact RetY.le (leD.refl _)
  cases hm
  exact RetY.le (leD.refl _)
  cases hm
  exact RetY.le (leD.refl _)
  obtain ⟨⟨x533, x534⟩, hx535, hm⟩ := bd_some hm
  refine CallY.det (d_bylaw_Off b_ p.Lamp n p.Known _ hx535) ?_
  obtain ⟨⟨x536, x537⟩, hx538, hm⟩ := bd_some hm
  refine CallY.det (d_bylaw_Off b_ p.Lamp ((⟨n.No, (⟨(if (W (n.Set.Lo + x13)) < x11.Set then (W (n.Set.Lo + x13)) else x11.Set), (if (W (n.Set.Hi - x15)) > x11.Set then (W (n.Set.Hi - x15)) else x11.Set)⟩ : TRange), (⟨x11.Rise, x11.Rise⟩ : TRange), (⟨(if (W (n.Light.Lo + x17)) < x11.Light then (W (n.Light.Lo + x17)) else x11.Light), x11.Light⟩ : TRange), n.Fog⟩ : TNight)) p.Known _ hx538) ?_
  revert hm
  refine VIf.b (fun h539 hm => ?_) (fun h539 hm => ?_)
  obtain ⟨x540, hx541, hm⟩ := bd_some hm
  refine CallY.det (d_L01_sane  _ hx541) ?_
  cases hm
  exact RetY.le (leD.refl _)
  revert hm
  refine VIf.b (fun h542 hm => ?_) (fun h542 hm => ?_)
  obtain ⟨x543, hx544, hm⟩ := bd_some hm
  refine CallY.det (d_L01_sane  _ hx544) ?_
  cases hm
  exact RetY.le (leD.refl _)
  revert hm
  refine VIf.b (fun h545 hm => ?_) (fun h545 hm => ?_)
  revert hm
  refine VIf.b (fun h546 hm => ?_) (fun h546 hm => ?_)
  revert hm
  refine VIf.b (fun h547 hm => ?_) (fun h547 hm => ?_)
  obtain ⟨x548, hx549, hm⟩ := bd_some hm
  refine CallY.det (d_L01_sane  _ hx549) ?_
  cases hm
  exact RetY.le (leD.refl _)
  cases hm
  exact RetY.le (leD.refl _)
  cases hm
  exact RetY.le (leD.refl _)
  cases hm
  exact RetY.le (leD.refl _)
  obtain ⟨⟨x550, x551⟩, hx552, hm⟩ := bd_some hm
  refine CallY.det (d_bylaw_On b_ p.Lamp n p.Known _ hx552) ?_
  obtain ⟨⟨x553, x554⟩, hx555, hm⟩ := bd_some hm
  refine CallY.det (d_bylaw_On b_ p.Lamp ((⟨n.No, (⟨(if (W (n.Set.Lo + x13)) < x11.Set then (W (n.Set.Lo + x13)) else x11.Set), (if (W (n.Set.Hi - x15)) > x11.Set then (W (n.Set.Hi - x15)) else x11.Set)⟩ : TRange), (⟨x11.Rise, x11.Rise⟩ : TRange), (⟨(if (W (n.Light.Lo + x17)) < x11.Light then (W (n.Light.Lo + x17)) else x11.Light), x11.Light⟩ : TRange), n.Fog⟩ : TNight)) p.Known _ hx555) ?_
  revert hm
  refine VIf.b (fun h556 hm => ?_) (fun h556 hm => ?_)
  revert hm
  refine VIf.b (fun h557 hm => ?_) (fun h557 hm => ?_)
  revert hm
  refine VIf.b (fun h558 hm => ?_) (fun h558 hm => ?_)
  cases hm
  exact RetY.le (leD.refl _)
  revert hm
  refine VIf.b (fun h559 hm => ?_) (fun h559 hm => ?_)
  cases hm
  exact RetY.le (leD.refl _)
  revert hm
  refine VIf.b (fun h560 hm => ?_) (fun h560 hm => ?_)
  cases hm
  exact RetY.le (leD.refl _)
  obtain ⟨⟨x561, x562⟩, hx563, hm⟩ := bd_some hm
  refine CallY.det (d_bylaw_Off b_ p.Lamp n p.Known _ hx563) ?_
  obtain ⟨⟨x564, x565⟩, hx566, hm⟩ := bd_some hm
  refine CallY.det (d_bylaw_Off b_ p.Lamp ((⟨n.No, (⟨(if (W (n.Set.Lo + x13)) < x11.Set then (W (n.Set.Lo + x13)) else x11.Set), (if (W (n.Set.Hi - x15)) > x11.Set then (W (n.Set.Hi - x15)) else x11.Set)⟩ : TRange), (⟨x11.Rise, x11.Rise⟩ : TRange), (⟨(if (W (n.Light.Lo + x17)) < x11.Light then (W (n.Light.Lo + x17)) else x11.Light), x11.Light⟩ : TRange), n.Fog⟩ : TNight)) p.Known _ hx566) ?_
  revert hm
  refine VIf.b (fun h567 hm => ?_) (fun h567 hm => ?_)
  obtain ⟨x568, hx569, hm⟩ := bd_some hm
  refine CallY.det (d_L01_sane  _ hx569) ?_
  cases hm
  exact RetY.le (leD.refl _)
  revert hm
  refine VIf.b (fun h570 hm => ?_) (fun h570 hm => ?_)
  obtain ⟨x571, hx572, hm⟩ := bd_some hm
  refine CallY.det (d_L01_sane  _ hx572) ?_
  cases hm
  exact RetY.le (leD.refl _)
  revert hm
  refine VIf.b (fun h573 hm => ?_) (fun h573 hm => ?_)
  revert hm
  refine VIf.b (fun h574 hm => ?_) (fun h574 hm => ?_)
  revert hm
  refine VIf.b (fun h575 hm => ?_) (fun h575 hm => ?_)
  obtain ⟨x576, hx577, hm⟩ := bd_some hm
  refine CallY.det (d_L01_sane  _ hx577) ?_
  cases hm
  exact RetY.le (leD.refl _)
  cases hm
  exact RetY.le (leD.refl _)
  cases hm
  exact RetY.le (leD.refl _)
  cases hm
  exact RetY.le (leD.refl _)
  obtain ⟨⟨x578, x579⟩, hx580, hm⟩ := bd_some hm
  refine CallY.det (d_bylaw_Off b_ p.Lamp n p.Known _ hx580) ?_
  obtain ⟨⟨x581, x582⟩, hx583, hm⟩ := bd_some hm
  refine CallY.det (d_bylaw_Off b_ p.Lamp ((⟨n.No, (⟨(if (W (n.Set.Lo + x13)) < x11.Set then (W (n.Set.Lo + x13)) else x11.Set), (if (W (n.Set.Hi - x15)) > x11.Set then (W (n.Set.Hi - x15)) else x11.Set)⟩ : TRange), (⟨x11.Rise, x11.Rise⟩ : TRange), (⟨(if (W (n.Light.Lo + x17)) < x11.Light then (W (n.Light.Lo + x17)) else x11.Light), x11.Light⟩ : TRange), n.Fog⟩ : TNight)) p.Known _ hx583) ?_
  revert hm
  refine VIf.b (fun h584 hm => ?_) (fun h584 hm => ?_)
  obtain ⟨x585, hx586, hm⟩ := bd_some hm
  refine CallY.det (d_L01_sane  _ hx586) ?_
  cases hm
  exact RetY.le (leD.refl _)
  revert hm
  refine VIf.b (fun h587 hm => ?_) (fun h587 hm => ?_)
  obtain ⟨x588, hx589, hm⟩ := bd_some hm
  refine CallY.det (d_L01_sane  _ hx589) ?_
  cases hm
  exact RetY.le (leD.refl _)
  revert hm
  refine VIf.b (fun h590 hm => ?_) (fun h590 hm => ?_)
  revert hm
  refine VIf.b (fun h591 hm => ?_) (fun h591 hm => ?_)
  revert hm
  refine VIf.b (fun h592 hm => ?_) (fun h592 hm => ?_)
  obtain ⟨x593, hx594, hm⟩ := bd_some hm
  refine CallY.det (d_L01_sane  _ hx594) ?_
  cases hm
  exact RetY.le (leD.refl _)
  cases hm
  exact RetY.le (leD.refl _)
  cases hm
  exact RetY.le (leD.refl _)
  cases hm
  exact RetY.le (leD.refl _)
  obtain ⟨⟨x595, x596⟩, hx597, hm⟩ := bd_some hm
  refine CallY.det (d_bylaw_Off b_ p.Lamp n p.Known _ hx597) ?_
  obtain ⟨⟨x598, x599⟩, hx600, hm⟩ := bd_some hm
  refine CallY.det (d_bylaw_Off b_ p.Lamp ((⟨n.No, (⟨(if (W (n.Set.Lo + x13)) < x11.Set then (W (n.Set.Lo + x13)) else x11.Set), (if (W (n.Set.Hi - x15)) > x11.Set then (W (n.Set.Hi - x15)) else x11.Set)⟩ : TRange), (⟨x11.Rise, x11.Rise⟩ : TRange), (⟨(if (W (n.Light.Lo + x17)) < x11.Light then (W (n.Light.Lo + x17)) else x11.Light), x11.Light⟩ : TRange), n.Fog⟩ : TNight)) p.Known _ hx600) ?_
  revert hm
  refine VIf.b (fun h601 hm => ?_) (fun h601 hm => ?_)
  obtain ⟨x602, hx603, hm⟩ := bd_some hm
  refine CallY.det (d_L01_sane  _ hx603) ?_
  cases hm
  exact RetY.le (leD.refl _)
  revert hm
  refine VIf.b (fun h604 hm => ?_) (fun h604 hm => ?_)
  obtain ⟨x605, hx606, hm⟩ := bd_some hm
  refine CallY.det (d_L01_sane  _ hx606) ?_
  cases hm
  exact RetY.le (leD.refl _)
  revert hm
  refine VIf.b (fun h607 hm => ?_) (fun h607 hm => ?_)
  revert hm
  refine VIf.b (fun h608 hm => ?_) (fun h608 hm => ?_)
  revert hm
  refine VIf.b (fun h609 hm => ?_) (fun h609 hm => ?_)
  obtain ⟨x610, hx611, hm⟩ := bd_some hm
  refine CallY.det (d_L01_sane  _ hx611) ?_
  cases hm
  exact RetY.le (leD.refl _)
  cases hm
  exact RetY.le (leD.refl _)
  cases hm
  exact RetY.le (leD.refl _)
  cases hm
  exact RetY.le (leD.refl _)
  obtain ⟨⟨x612, x613⟩, hx614, hm⟩ := bd_some hm
  refine CallY.det (d_bylaw_Lit b_ p.Lamp n p.Known _ hx614) ?_
  obtain ⟨⟨x615, x616⟩, hx617, hm⟩ := bd_some hm
  refine CallY.det (d_bylaw_Lit b_ p.Lamp ((⟨n.No, (⟨(if (W (n.Set.Lo + x13)) < x11.Set then (W (n.Set.Lo + x13)) else x11.Set), (if (W (n.Set.Hi - x15)) > x11.Set then (W (n.Set.Hi - x15)) else x11.Set)⟩ : TRange), (⟨x11.Rise, x11.Rise⟩ : TRange), (⟨(if (W (n.Light.Lo + x17)) < x11.Light then (W (n.Light.Lo + x17)) else x11.Light), x11.Light⟩ : TRange), n.Fog⟩ : TNight)) p.Known _ hx617) ?_
  revert hm
  refine VIf.b (fun h618 hm => ?_) (fun h618 hm => ?_)
  cases hm
  exact RetY.le (leD.refl _)
  revert hm
  refine VIf.b (fun h619 hm => ?_) (fun h619 hm => ?_)
  revert hm
  refine VIf.b (fun h620 hm => ?_) (fun h620 hm => ?_)
  revert hm
  refine VIf.b (fun h621 hm => ?_) (fun h621 hm => ?_)
  cases hm
  exact RetY.le (leD.refl _)
  obtain ⟨⟨x622, x623⟩, hx624, hm⟩ := bd_some hm
  refine CallY.det (d_bylaw_On b_ p.Lamp n p.Known _ hx624) ?_
  obtain ⟨⟨x625, x626⟩, hx627, hm⟩ := bd_some hm
  refine CallY.det (d_bylaw_On b_ p.Lamp ((⟨n.No, (⟨(if (W (n.Set.Lo + x13)) < x11.Set then (W (n.Set.Lo + x13)) else x11.Set), (if (W (n.Set.Hi - x15)) > x11.Set then (W (n.Set.Hi - x15)) else x11.Set)⟩ : TRange), (⟨x11.Rise, x11.Rise⟩ : TRange), (⟨(if (W (n.Light.Lo + x17)) < x11.Light then (W (n.Light.Lo + x17)) else x11.Light), x11.Light⟩ : TRange), n.Fog⟩ : TNight)) p.Known _ hx627) ?_
  revert hm
  refine VIf.b (fun h628 hm => ?_) (fun h628 hm => ?_)
  revert hm
  refine VIf.b (fun h629 hm => ?_) (fun h629 hm => ?_)
  revert hm
  refine VIf.b (fun h630 hm => ?_) (fun h630 hm => ?_)
  cases hm
  exact RetY.le (leD.refl _)
  revert hm
  refine VIf.b (fun h631 hm => ?_) (fun h631 hm => ?_)
  cases hm
  exact RetY.le (leD.refl _)
  revert hm
  refine VIf.b (fun h632 hm => ?_) (fun h632 hm => ?_)
  cases hm
  exact RetY.le (leD.refl _)
  obtain ⟨⟨x633, x634⟩, hx635, hm⟩ := bd_some hm
  refine CallY.det (d_bylaw_Off b_ p.Lamp n p.Known _ hx635) ?_
  obtain ⟨⟨x636, x637⟩, hx638, hm⟩ := bd_some hm
  refine CallY.det (d_bylaw_Off b_ p.Lamp ((⟨n.No, (⟨(if (W (n.Set.Lo + x13)) < x11.Set then (W (n.Set.Lo + x13)) else x11.Set), (if (W (n.Set.Hi - x15)) > x11.Set then (W (n.Set.Hi - x15)) else x11.Set)⟩ : TRange), (⟨x11.Rise, x11.Rise⟩ : TRange), (⟨(if (W (n.Light.Lo + x17)) < x11.Light then (W (n.Light.Lo + x17)) else x11.Light), x11.Light⟩ : TRange), n.Fog⟩ : TNight)) p.Known _ hx638) ?_
  revert hm
  refine VIf.b (fun h639 hm => ?_) (fun h639 hm => ?_)
  obtain ⟨x640, hx641, hm⟩ := bd_some hm
  refine CallY.det (d_L01_sane  _ hx641) ?_
  cases hm
  exact RetY.le (leD.refl _)
  revert hm
  refine VIf.b (fun h642 hm => ?_) (fun h642 hm => ?_)
  obtain ⟨x643, hx644, hm⟩ := bd_some hm
  refine CallY.det (d_L01_sane  _ hx644) ?_
  cases hm
  exact RetY.le (leD.refl _)
  revert hm
  refine VIf.b (fun h645 hm => ?_) (fun h645 hm => ?_)
  revert hm
  refine VIf.b (fun h646 hm => ?_) (fun h646 hm => ?_)
  revert hm
  refine VIf.b (fun h647 hm => ?_) (fun h647 hm => ?_)
  obtain ⟨x648, hx649, hm⟩ := bd_some hm
  refine CallY.det (d_L01_sane  _ hx649) ?_
  cases hm
  exact RetY.le (leD.refl _)
  cases hm
  exact RetY.le (leD.refl _)
  cases hm
  exact RetY.le (leD.refl _)
  cases hm
  exact RetY.le (leD.refl _)
  obtain ⟨⟨x650, x651⟩, hx652, hm⟩ := bd_some hm
  refine CallY.det (d_bylaw_Off b_ p.Lamp n p.Known _ hx652) ?_
  obtain ⟨⟨x653, x654⟩, hx655, hm⟩ := bd_some hm
  refine CallY.det (d_bylaw_Off b_ p.Lamp ((⟨n.No, (⟨(if (W (n.Set.Lo + x13)) < x11.Set then (W (n.Set.Lo + x13)) else x11.Set), (if (W (n.Set.Hi - x15)) > x11.Set then (W (n.Set.Hi - x15)) else x11.Set)⟩ : TRange), (⟨x11.Rise, x11.Rise⟩ : TRange), (⟨(if (W (n.Light.Lo + x17)) < x11.Light then (W (n.Light.Lo + x17)) else x11.Light), x11.Light⟩ : TRange), n.Fog⟩ : TNight)) p.Known _ hx655) ?_
  revert hm
  refine VIf.b (fun h656 hm => ?_) (fun h656 hm => ?_)
  obtain ⟨x657, hx658, hm⟩ := bd_some hm
  refine CallY.det (d_L01_sane  _ hx658) ?_
  cases hm
  exact RetY.le (leD.refl _)
  revert hm
  refine VIf.b (fun h659 hm => ?_) (fun h659 hm => ?_)
  obtain ⟨x660, hx661, hm⟩ := bd_some hm
  refine CallY.det (d_L01_sane  _ hx661) ?_
  cases hm
  exact RetY.le (leD.refl _)
  revert hm
  refine VIf.b (fun h662 hm => ?_) (fun h662 hm => ?_)
  revert hm
  refine VIf.b (fun h663 hm => ?_) (fun h663 hm => ?_)
  revert hm
  refine VIf.b (fun h664 hm => ?_) (fun h664 hm => ?_)
  obtain ⟨x665, hx666, hm⟩ := bd_some hm
  refine CallY.det (d_L01_sane  _ hx666) ?_
  cases hm
  exact RetY.le (leD.refl _)
  cases hm
  exact RetY.le (leD.refl _)
  cases hm
  exact RetY.le (leD.refl _)
  cases hm
  exact RetY.le (leD.refl _)
  obtain ⟨⟨x667, x668⟩, hx669, hm⟩ := bd_some hm
  refine CallY.det (d_bylaw_Off b_ p.Lamp n p.Known _ hx669) ?_
  obtain ⟨⟨x670, x671⟩, hx672, hm⟩ := bd_some hm
  refine CallY.det (d_bylaw_Off b_ p.Lamp ((⟨n.No, (⟨(if (W (n.Set.Lo + x13)) < x11.Set then (W (n.Set.Lo + x13)) else x11.Set), (if (W (n.Set.Hi - x15)) > x11.Set then (W (n.Set.Hi - x15)) else x11.Set)⟩ : TRange), (⟨x11.Rise, x11.Rise⟩ : TRange), (⟨(if (W (n.Light.Lo + x17)) < x11.Light then (W (n.Light.Lo + x17)) else x11.Light), x11.Light⟩ : TRange), n.Fog⟩ : TNight)) p.Known _ hx672) ?_
  revert hm
  refine VIf.b (fun h673 hm => ?_) (fun h673 hm => ?_)
  obtain ⟨x674, hx675, hm⟩ := bd_some hm
  refine CallY.det (d_L01_sane  _ hx675) ?_
  cases hm
  exact RetY.le (leD.refl _)
  revert hm
  refine VIf.b (fun h676 hm => ?_) (fun h676 hm => ?_)
  obtain ⟨x677, hx678, hm⟩ := bd_some hm
  refine CallY.det (d_L01_sane  _ hx678) ?_
  cases hm
  exact RetY.le (leD.refl _)
  revert hm
  refine VIf.b (fun h679 hm => ?_) (fun h679 hm => ?_)
  revert hm
  refine VIf.b (fun h680 hm => ?_) (fun h680 hm => ?_)
  revert hm
  refine VIf.b (fun h681 hm => ?_) (fun h681 hm => ?_)
  obtain ⟨x682, hx683, hm⟩ := bd_some hm
  refine CallY.det (d_L01_sane  _ hx683) ?_
  cases hm
  exact RetY.le (leD.refl _)
  cases hm
  exact RetY.le (leD.refl _)
  cases hm
  exact RetY.le (leD.refl _)
  cases hm
  exact RetY.le (leD.refl _)
  obtain ⟨⟨x684, x685⟩, hx686, hm⟩ := bd_some hm
  refine CallY.det (d_bylaw_On b_ p.Lamp n p.Known _ hx686) ?_
  obtain ⟨⟨x687, x688⟩, hx689, hm⟩ := bd_some hm
  refine CallY.det (d_bylaw_On b_ p.Lamp ((⟨n.No, (⟨(if (W (n.Set.Lo + x13)) < x11.Set then (W (n.Set.Lo + x13)) else x11.Set), (if (W (n.Set.Hi - x15)) > x11.Set then (W (n.Set.Hi - x15)) else x11.Set)⟩ : TRange), (⟨x11.Rise, x11.Rise⟩ : TRange), (⟨(if (W (n.Light.Lo + x17)) < x11.Light then (W (n.Light.Lo + x17)) else x11.Light), x11.Light⟩ : TRange), n.Fog⟩ : TNight)) p.Known _ hx689) ?_
  revert hm
  refine VIf.b (fun h690 hm => ?_) (fun h690 hm => ?_)
  revert hm
  refine VIf.b (fun h691 hm => ?_) (fun h691 hm => ?_)
  revert hm
  refine VIf.b (fun h692 hm => ?_) (fun h692 hm => ?_)
  cases hm
  exact RetY.le (leD.refl _)
  revert hm
  refine VIf.b (fun h693 hm => ?_) (fun h693 hm => ?_)
  cases hm
  exact RetY.le (leD.refl _)
  revert hm
  refine VIf.b (fun h694 hm => ?_) (fun h694 hm => ?_)
  cases hm
  exact RetY.le (leD.refl _)
  obtain ⟨⟨x695, x696⟩, hx697, hm⟩ := bd_some hm
  refine CallY.det (d_bylaw_Off b_ p.Lamp n p.Known _ hx697) ?_
  obtain ⟨⟨x698, x699⟩, hx700, hm⟩ := bd_some hm
  refine CallY.det (d_bylaw_Off b_ p.Lamp ((⟨n.No, (⟨(if (W (n.Set.Lo + x13)) < x11.Set then (W (n.Set.Lo + x13)) else x11.Set), (if (W (n.Set.Hi - x15)) > x11.Set then (W (n.Set.Hi - x15)) else x11.Set)⟩ : TRange), (⟨x11.Rise, x11.Rise⟩ : TRange), (⟨(if (W (n.Light.Lo + x17)) < x11.Light then (W (n.Light.Lo + x17)) else x11.Light), x11.Light⟩ : TRange), n.Fog⟩ : TNight)) p.Known _ hx700) ?_
  revert hm
  refine VIf.b (fun h701 hm => ?_) (fun h701 hm => ?_)
  obtain ⟨x702, hx703, hm⟩ := bd_some hm
  refine CallY.det (d_L01_sane  _ hx703) ?_
  cases hm
  exact RetY.le (leD.refl _)
  revert hm
  refine VIf.b (fun h704 hm => ?_) (fun h704 hm => ?_)
  obtain ⟨x705, hx706, hm⟩ := bd_some hm
  refine CallY.det (d_L01_sane  _ hx706) ?_
  cases hm
  exact RetY.le (leD.refl _)
  revert hm
  refine VIf.b (fun h707 hm => ?_) (fun h707 hm => ?_)
  revert hm
  refine VIf.b (fun h708 hm => ?_) (fun h708 hm => ?_)
  revert hm
  refine VIf.b (fun h709 hm => ?_) (fun h709 hm => ?_)
  obtain ⟨x710, hx711, hm⟩ := bd_some hm
  refine CallY.det (d_L01_sane  _ hx711) ?_
  cases hm
  exact RetY.le (leD.refl _)
  cases hm
  exact RetY.le (leD.refl _)
  cases hm
  exact RetY.le (leD.refl _)
  cases hm
  exact RetY.le (leD.refl _)
  obtain ⟨⟨x712, x713⟩, hx714, hm⟩ := bd_some hm
  refine CallY.det (d_bylaw_Off b_ p.Lamp n p.Known _ hx714) ?_
  obtain ⟨⟨x715, x716⟩, hx717, hm⟩ := bd_some hm
  refine CallY.det (d_bylaw_Off b_ p.Lamp ((⟨n.No, (⟨(if (W (n.Set.Lo + x13)) < x11.Set then (W (n.Set.Lo + x13)) else x11.Set), (if (W (n.Set.Hi - x15)) > x11.Set then (W (n.Set.Hi - x15)) else x11.Set)⟩ : TRange), (⟨x11.Rise, x11.Rise⟩ : TRange), (⟨(if (W (n.Light.Lo + x17)) < x11.Light then (W (n.Light.Lo + x17)) else x11.Light), x11.Light⟩ : TRange), n.Fog⟩ : TNight)) p.Known _ hx717) ?_
  revert hm
  refine VIf.b (fun h718 hm => ?_) (fun h718 hm => ?_)
  obtain ⟨x719, hx720, hm⟩ := bd_some hm
  refine CallY.det (d_L01_sane  _ hx720) ?_
  cases hm
  exact RetY.le (leD.refl _)
  revert hm
  refine VIf.b (fun h721 hm => ?_) (fun h721 hm => ?_)
  obtain ⟨x722, hx723, hm⟩ := bd_some hm
  refine CallY.det (d_L01_sane  _ hx723) ?_
  cases hm
  exact RetY.le (leD.refl _)
  revert hm
  refine VIf.b (fun h724 hm => ?_) (fun h724 hm => ?_)
  revert hm
  refine VIf.b (fun h725 hm => ?_) (fun h725 hm => ?_)
  revert hm
  refine VIf.b (fun h726 hm => ?_) (fun h726 hm => ?_)
  obtain ⟨x727, hx728, hm⟩ := bd_some hm
  refine CallY.det (d_L01_sane  _ hx728) ?_
  cases hm
  exact RetY.le (leD.refl _)
  cases hm
  exact RetY.le (leD.refl _)
  cases hm
  exact RetY.le (leD.refl _)
  cases hm
  exact RetY.le (leD.refl _)
  obtain ⟨⟨x729, x730⟩, hx731, hm⟩ := bd_some hm
  refine CallY.det (d_bylaw_Off b_ p.Lamp n p.Known _ hx731) ?_
  obtain ⟨⟨x732, x733⟩, hx734, hm⟩ := bd_some hm
  refine CallY.det (d_bylaw_Off b_ p.Lamp ((⟨n.No, (⟨(if (W (n.Set.Lo + x13)) < x11.Set then (W (n.Set.Lo + x13)) else x11.Set), (if (W (n.Set.Hi - x15)) > x11.Set then (W (n.Set.Hi - x15)) else x11.Set)⟩ : TRange), (⟨x11.Rise, x11.Rise⟩ : TRange), (⟨(if (W (n.Light.Lo + x17)) < x11.Light then (W (n.Light.Lo + x17)) else x11.Light), x11.Light⟩ : TRange), n.Fog⟩ : TNight)) p.Known _ hx734) ?_
  revert hm
  refine VIf.b (fun h735 hm => ?_) (fun h735 hm => ?_)
  obtain ⟨x736, hx737, hm⟩ := bd_some hm
  refine CallY.det (d_L01_sane  _ hx737) ?_
  cases hm
  exact RetY.le (leD.refl _)
  revert hm
  refine VIf.b (fun h738 hm => ?_) (fun h738 hm => ?_)
  obtain ⟨x739, hx740, hm⟩ := bd_some hm
  refine CallY.det (d_L01_sane  _ hx740) ?_
  cases hm
  exact RetY.le (leD.refl _)
  revert hm
  refine VIf.b (fun h741 hm => ?_) (fun h741 hm => ?_)
  revert hm
  refine VIf.b (fun h742 hm => ?_) (fun h742 hm => ?_)
  revert hm
  refine VIf.b (fun h743 hm => ?_) (fun h743 hm => ?_)
  obtain ⟨x744, hx745, hm⟩ := bd_some hm
  refine CallY.det (d_L01_sane  _ hx745) ?_
  cases hm
  exact RetY.le (leD.refl _)
  cases hm
  exact RetY.le (leD.refl _)
  cases hm
  exact RetY.le (leD.refl _)
  cases hm
  exact RetY.le (leD.refl _)
  obtain ⟨⟨x746, x747⟩, hx748, hm⟩ := bd_some hm
  refine CallY.det (d_bylaw_On b_ p.Lamp n p.Known _ hx748) ?_
  obtain ⟨⟨x749, x750⟩, hx751, hm⟩ := bd_some hm
  refine CallY.det (d_bylaw_On b_ p.Lamp ((⟨n.No, (⟨(if (W (n.Set.Lo + x13)) < x11.Set then (W (n.Set.Lo + x13)) else x11.Set), (if (W (n.Set.Hi - x15)) > x11.Set then (W (n.Set.Hi - x15)) else x11.Set)⟩ : TRange), (⟨x11.Rise, x11.Rise⟩ : TRange), (⟨(if (W (n.Light.Lo + x17)) < x11.Light then (W (n.Light.Lo + x17)) else x11.Light), x11.Light⟩ : TRange), n.Fog⟩ : TNight)) p.Known _ hx751) ?_
  revert hm
  refine VIf.b (fun h752 hm => ?_) (fun h752 hm => ?_)
  revert hm
  refine VIf.b (fun h753 hm => ?_) (fun h753 hm => ?_)
  revert hm
  refine VIf.b (fun h754 hm => ?_) (fun h754 hm => ?_)
  cases hm
  exact RetY.le (leD.refl _)
  revert hm
  refine VIf.b (fun h755 hm => ?_) (fun h755 hm => ?_)
  cases hm
  exact RetY.le (leD.refl _)
  revert hm
  refine VIf.b (fun h756 hm => ?_) (fun h756 hm => ?_)
  cases hm
  exact RetY.le (leD.refl _)
  obtain ⟨⟨x757, x758⟩, hx759, hm⟩ := bd_some hm
  refine CallY.det (d_bylaw_Off b_ p.Lamp n p.Known _ hx759) ?_
  obtain ⟨⟨x760, x761⟩, hx762, hm⟩ := bd_some hm
  refine CallY.det (d_bylaw_Off b_ p.Lamp ((⟨n.No, (⟨(if (W (n.Set.Lo + x13)) < x11.Set then (W (n.Set.Lo + x13)) else x11.Set), (if (W (n.Set.Hi - x15)) > x11.Set then (W (n.Set.Hi - x15)) else x11.Set)⟩ : TRange), (⟨x11.Rise, x11.Rise⟩ : TRange), (⟨(if (W (n.Light.Lo + x17)) < x11.Light then (W (n.Light.Lo + x17)) else x11.Light), x11.Light⟩ : TRange), n.Fog⟩ : TNight)) p.Known _ hx762) ?_
  revert hm
  refine VIf.b (fun h763 hm => ?_) (fun h763 hm => ?_)
  obtain ⟨x764, hx765, hm⟩ := bd_some hm
  refine CallY.det (d_L01_sane  _ hx765) ?_
  cases hm
  exact RetY.le (leD.refl _)
  revert hm
  refine VIf.b (fun h766 hm => ?_) (fun h766 hm => ?_)
  obtain ⟨x767, hx768, hm⟩ := bd_some hm
  refine CallY.det (d_L01_sane  _ hx768) ?_
  cases hm
  exact RetY.le (leD.refl _)
  revert hm
  refine VIf.b (fun h769 hm => ?_) (fun h769 hm => ?_)
  revert hm
  refine VIf.b (fun h770 hm => ?_) (fun h770 hm => ?_)
  revert hm
  refine VIf.b (fun h771 hm => ?_) (fun h771 hm => ?_)
  obtain ⟨x772, hx773, hm⟩ := bd_some hm
  refine CallY.det (d_L01_sane  _ hx773) ?_
  cases hm
  exact RetY.le (leD.refl _)
  cases hm
  exact RetY.le (leD.refl _)
  cases hm
  exact RetY.le (leD.refl _)
  cases hm
  exact RetY.le (leD.refl _)
  obtain ⟨⟨x774, x775⟩, hx776, hm⟩ := bd_some hm
  refine CallY.det (d_bylaw_Off b_ p.Lamp n p.Known _ hx776) ?_
  obtain ⟨⟨x777, x778⟩, hx779, hm⟩ := bd_some hm
  refine CallY.det (d_bylaw_Off b_ p.Lamp ((⟨n.No, (⟨(if (W (n.Set.Lo + x13)) < x11.Set then (W (n.Set.Lo + x13)) else x11.Set), (if (W (n.Set.Hi - x15)) > x11.Set then (W (n.Set.Hi - x15)) else x11.Set)⟩ : TRange), (⟨x11.Rise, x11.Rise⟩ : TRange), (⟨(if (W (n.Light.Lo + x17)) < x11.Light then (W (n.Light.Lo + x17)) else x11.Light), x11.Light⟩ : TRange), n.Fog⟩ : TNight)) p.Known _ hx779) ?_
  revert hm
  refine VIf.b (fun h780 hm => ?_) (fun h780 hm => ?_)
  obtain ⟨x781, hx782, hm⟩ := bd_some hm
  refine CallY.det (d_L01_sane  _ hx782) ?_
  cases hm
  exact RetY.le (leD.refl _)
  revert hm
  refine VIf.b (fun h783 hm => ?_) (fun h783 hm => ?_)
  obtain ⟨x784, hx785, hm⟩ := bd_some hm
  refine CallY.det (d_L01_sane  _ hx785) ?_
  cases hm
  exact RetY.le (leD.refl _)
  revert hm
  refine VIf.b (fun h786 hm => ?_) (fun h786 hm => ?_)
  revert hm
  refine VIf.b (fun h787 hm => ?_) (fun h787 hm => ?_)
  revert hm
  refine VIf.b (fun h788 hm => ?_) (fun h788 hm => ?_)
  obtain ⟨x789, hx790, hm⟩ := bd_some hm
  refine CallY.det (d_L01_sane  _ hx790) ?_
  cases hm
  exact RetY.le (leD.refl _)
  cases hm
  exact RetY.le (leD.refl _)
  cases hm
  exact RetY.le (leD.refl _)
  cases hm
  exact RetY.le (leD.refl _)
  obtain ⟨⟨x791, x792⟩, hx793, hm⟩ := bd_some hm
  refine CallY.det (d_bylaw_Off b_ p.Lamp n p.Known _ hx793) ?_
  obtain ⟨⟨x794, x795⟩, hx796, hm⟩ := bd_some hm
  refine CallY.det (d_bylaw_Off b_ p.Lamp ((⟨n.No, (⟨(if (W (n.Set.Lo + x13)) < x11.Set then (W (n.Set.Lo + x13)) else x11.Set), (if (W (n.Set.Hi - x15)) > x11.Set then (W (n.Set.Hi - x15)) else x11.Set)⟩ : TRange), (⟨x11.Rise, x11.Rise⟩ : TRange), (⟨(if (W (n.Light.Lo + x17)) < x11.Light then (W (n.Light.Lo + x17)) else x11.Light), x11.Light⟩ : TRange), n.Fog⟩ : TNight)) p.Known _ hx796) ?_
  revert hm
  refine VIf.b (fun h797 hm => ?_) (fun h797 hm => ?_)
  obtain ⟨x798, hx799, hm⟩ := bd_some hm
  refine CallY.det (d_L01_sane  _ hx799) ?_
  cases hm
  exact RetY.le (leD.refl _)
  revert hm
  refine VIf.b (fun h800 hm => ?_) (fun h800 hm => ?_)
  obtain ⟨x801, hx802, hm⟩ := bd_some hm
  refine CallY.det (d_L01_sane  _ hx802) ?_
  cases hm
  exact RetY.le (leD.refl _)
  revert hm
  refine VIf.b (fun h803 hm => ?_) (fun h803 hm => ?_)
  revert hm
  refine VIf.b (fun h804 hm => ?_) (fun h804 hm => ?_)
  revert hm
  refine VIf.b (fun h805 hm => ?_) (fun h805 hm => ?_)
  obtain ⟨x806, hx807, hm⟩ := bd_some hm
  refine CallY.det (d_L01_sane  _ hx807) ?_
  cases hm
  exact RetY.le (leD.refl _)
  cases hm
  exact RetY.le (leD.refl _)
  cases hm
  exact RetY.le (leD.refl _)
  cases hm
  exact RetY.le (leD.refl _)

end Go.Proofs.Ytmkkedbfjpkgkaa
