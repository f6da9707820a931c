-- Made by this session's own program (wip/patch_print.py, over the kit's print). Lean checks it.
import Derived.Test.YtpjmkghmjpbldaaPrint0
import Derived.Test.YtpjmkghmjpbldaaPrintB
import Derived.Test.YtpjmkghmjpbldaaPrintF100
namespace Go.Proofs.Ytpjmkghmjpbldaa.Print
open Go.RowKit Go.Proofs.YtpjmkghmjpbldaaW.PrintWords Go.Proofs.YtpjmkghmjpbldaaW.PrintLast Go.Proofs.YtpjmkghmjpbldaaW.PrintMore Go.Proofs.YtpjmkghmjpbldaaX
attribute [local go_sem] max2_int min2_int max_two min_two max_three min_three max_four min_four   -- for this text's walks alone
set_option linter.unusedVariables false
set_option linter.unusedSimpArgs false

abbrev z76_0 : Array Bool := #[false, false, false, false, false, false, false, false, false, false, false, false, false, false, false, false, false, false, false, false, false, false, false, false, false, false, false, false, false, false, false, false, false, false, false, false, false, false, false, false, false, false, false, false, false, false, false, false, false, false, false, false, false, false, false, false, false, false, false, false, false, false, false, false, false]
abbrev z76_1 : Array Bool := #[true, false, false, false, false, false, false, false, false, false, false, false, false, false, false, false, false, false, false, false, false, false, false, false, false, false, false, false, false, false, false, false, false, false, false, false, false, false, false, false, false, false, false, false, false, false, false, false, false, false, false, false, false, false, false, false, false, false, false, false, false, false, false, false, false]
abbrev z76_2 : Array Bool := #[true, false, true, false, false, false, false, false, false, false, false, false, false, false, false, false, false, false, false, false, false, false, false, false, false, false, false, false, false, false, false, false, false, false, false, false, false, false, false, false, false, false, false, false, false, false, false, false, false, false, false, false, false, false, false, false, false, false, false, false, false, false, false, false, false]
abbrev z76_3 : Array Bool := #[true, true, true, false, false, false, false, false, false, false, false, false, false, false, false, false, false, false, false, false, false, false, false, false, false, false, false, false, false, false, false, false, false, false, false, false, false, false, false, false, false, false, false, false, false, false, false, false, false, false, false, false, false, false, false, false, false, false, false, false, false, false, false, false, false]
abbrev z76_4 : Array Bool := #[true, true, true, true, false, false, false, false, false, false, false, false, false, false, false, false, false, false, false, false, false, false, false, false, false, false, false, false, false, false, false, false, false, false, false, false, false, false, false, false, false, false, false, false, false, false, false, false, false, false, false, false, false, false, false, false, false, false, false, false, false, false, false, false, false]
abbrev z76_5 : Array Bool := #[true, true, true, true, true, false, false, false, false, false, false, false, false, false, false, false, false, false, false, false, false, false, false, false, false, false, false, false, false, false, false, false, false, false, false, false, false, false, false, false, false, false, false, false, false, false, false, false, false, false, false, false, false, false, false, false, false, false, false, false, false, false, false, false, false]
abbrev z76_6 : Array Bool := #[true, true, true, true, true, true, false, false, false, false, false, false, false, false, false, false, false, false, false, false, false, false, false, false, false, false, false, false, false, false, false, false, false, false, false, false, false, false, false, false, false, false, false, false, false, false, false, false, false, false, false, false, false, false, false, false, false, false, false, false, false, false, false, false, false]
abbrev z76_7 : Array Bool := #[true, true, true, true, true, true, true, false, false, false, false, false, false, false, false, false, false, false, false, false, false, false, false, false, false, false, false, false, false, false, false, false, false, false, false, false, false, false, false, false, false, false, false, false, false, false, false, false, false, false, false, false, false, false, false, false, false, false, false, false, false, false, false, false, false]
abbrev z76_8 : Array Bool := #[true, true, true, true, true, true, true, true, false, false, false, false, false, false, false, false, false, false, false, false, false, false, false, false, false, false, false, false, false, false, false, false, false, false, false, false, false, false, false, false, false, false, false, false, false, false, false, false, false, false, false, false, false, false, false, false, false, false, false, false, false, false, false, false, false]
abbrev z76_9 : Array Bool := #[true, true, true, true, true, true, true, true, true, false, false, false, false, false, false, false, false, false, false, false, false, false, false, false, false, false, false, false, false, false, false, false, false, false, false, false, false, false, false, false, false, false, false, false, false, false, false, false, false, false, false, false, false, false, false, false, false, false, false, false, false, false, false, false, false]
abbrev z76_10 : Array Bool := #[true, true, true, true, true, true, true, true, true, false, true, false, false, false, false, false, false, false, false, false, false, false, false, false, false, false, false, false, false, false, false, false, false, false, false, false, false, false, false, false, false, false, false, false, false, false, false, false, false, false, false, false, false, false, false, false, false, false, false, false, false, false, false, false, false]
abbrev z76_11 : Array Bool := #[true, true, true, true, true, true, true, true, true, true, true, false, false, false, false, false, false, false, false, false, false, false, false, false, false, false, false, false, false, false, false, false, false, false, false, false, false, false, false, false, false, false, false, false, false, false, false, false, false, false, false, false, false, false, false, false, false, false, false, false, false, false, false, false, false]
abbrev z76_12 : Array Bool := #[true, true, true, true, true, true, true, true, true, true, true, true, false, false, false, false, false, false, false, false, false, false, false, false, false, false, false, false, false, false, false, false, false, false, false, false, false, false, false, false, false, false, false, false, false, false, false, false, false, false, false, false, false, false, false, false, false, false, false, false, false, false, false, false, false]
abbrev z76_13 : Array Bool := #[true, true, true, true, true, true, true, true, true, true, true, true, true, false, false, false, false, false, false, false, false, false, false, false, false, false, false, false, false, false, false, false, false, false, false, false, false, false, false, false, false, false, false, false, false, false, false, false, false, false, false, false, false, false, false, false, false, false, false, false, false, false, false, false, false]
abbrev z76_14 : Array Bool := #[true, true, true, true, true, true, true, true, true, true, true, true, true, true, false, false, false, false, false, false, false, false, false, false, false, false, false, false, false, false, false, false, false, false, false, false, false, false, false, false, false, false, false, false, false, false, false, false, false, false, false, false, false, false, false, false, false, false, false, false, false, false, false, false, false]
abbrev z76_15 : Array Bool := #[true, true, true, true, true, true, true, true, true, true, true, true, true, true, true, false, false, false, false, false, false, false, false, false, false, false, false, false, false, false, false, false, false, false, false, false, false, false, false, false, false, false, false, false, false, false, false, false, false, false, false, false, false, false, false, false, false, false, false, false, false, false, false, false, false]
abbrev z76_16 : Array Bool := #[true, true, true, true, true, true, true, true, true, true, true, true, true, true, true, true, false, false, false, false, false, false, false, false, false, false, false, false, false, false, false, false, false, false, false, false, false, false, false, false, false, false, false, false, false, false, false, false, false, false, false, false, false, false, false, false, false, false, false, false, false, false, false, false, false]
abbrev z76_17 : Array Bool := #[true, true, true, true, true, true, true, true, true, true, true, true, true, true, true, true, true, false, false, false, false, false, false, false, false, false, false, false, false, false, false, false, false, false, false, false, false, false, false, false, false, false, false, false, false, false, false, false, false, false, false, false, false, false, false, false, false, false, false, false, false, false, false, false, false]
abbrev z76_18 : Array Bool := #[true, true, true, true, true, true, true, true, true, true, true, true, true, true, true, true, true, true, false, false, false, false, false, false, false, false, false, false, false, false, false, false, false, false, false, false, false, false, false, false, false, false, false, false, false, false, false, false, false, false, false, false, false, false, false, false, false, false, false, false, false, false, false, false, false]
abbrev z76_19 : Array Bool := #[true, true, true, true, true, true, true, true, true, true, true, true, true, true, true, true, true, true, false, true, false, false, false, false, false, false, false, false, false, false, false, false, false, false, false, false, false, false, false, false, false, false, false, false, false, false, false, false, false, false, false, false, false, false, false, false, false, false, false, false, false, false, false, false, false]
abbrev z76_20 : Array Bool := #[true, true, true, true, true, true, true, true, true, true, true, true, true, true, true, true, true, true, true, true, false, false, false, false, false, false, false, false, false, false, false, false, false, false, false, false, false, false, false, false, false, false, false, false, false, false, false, false, false, false, false, false, false, false, false, false, false, false, false, false, false, false, false, false, false]
abbrev z76_21 : Array Bool := #[true, true, true, true, true, true, true, true, true, true, true, true, true, true, true, true, true, true, true, true, true, false, false, false, false, false, false, false, false, false, false, false, false, false, false, false, false, false, false, false, false, false, false, false, false, false, false, false, false, false, false, false, false, false, false, false, false, false, false, false, false, false, false, false, false]
abbrev z76_22 : Array Bool := #[true, true, true, true, true, true, true, true, true, true, true, true, true, true, true, true, true, true, true, true, true, true, false, false, false, false, false, false, false, false, false, false, false, false, false, false, false, false, false, false, false, false, false, false, false, false, false, false, false, false, false, false, false, false, false, false, false, false, false, false, false, false, false, false, false]
abbrev z76_23 : Array Bool := #[true, true, true, true, true, true, true, true, true, true, true, true, true, true, true, true, true, true, true, true, true, true, true, false, false, false, false, false, false, false, false, false, false, false, false, false, false, false, false, false, false, false, false, false, false, false, false, false, false, false, false, false, false, false, false, false, false, false, false, false, false, false, false, false, false]
abbrev z76_24 : Array Bool := #[true, true, true, true, true, true, true, true, true, true, true, true, true, true, true, true, true, true, true, true, true, true, true, true, false, false, false, false, false, false, false, false, false, false, false, false, false, false, false, false, false, false, false, false, false, false, false, false, false, false, false, false, false, false, false, false, false, false, false, false, false, false, false, false, false]
abbrev z76_25 : Array Bool := #[true, true, true, true, true, true, true, true, true, true, true, true, true, true, true, true, true, true, true, true, true, true, true, true, true, false, false, false, false, false, false, false, false, false, false, false, false, false, false, false, false, false, false, false, false, false, false, false, false, false, false, false, false, false, false, false, false, false, false, false, false, false, false, false, false]
abbrev z76_26 : Array Bool := #[true, true, true, true, true, true, true, true, true, true, true, true, true, true, true, true, true, true, true, true, true, true, true, true, true, true, false, false, false, false, false, false, false, false, false, false, false, false, false, false, false, false, false, false, false, false, false, false, false, false, false, false, false, false, false, false, false, false, false, false, false, false, false, false, false]
abbrev z76_27 : Array Bool := #[true, true, true, true, true, true, true, true, true, true, true, true, true, true, true, true, true, true, true, true, true, true, true, true, true, true, true, false, false, false, false, false, false, false, false, false, false, false, false, false, false, false, false, false, false, false, false, false, false, false, false, false, false, false, false, false, false, false, false, false, false, false, false, false, false]
abbrev z76_28 : Array Bool := #[true, true, true, true, true, true, true, true, true, true, true, true, true, true, true, true, true, true, true, true, true, true, true, true, true, true, true, true, false, false, false, false, false, false, false, false, false, false, false, false, false, false, false, false, false, false, false, false, false, false, false, false, false, false, false, false, false, false, false, false, false, false, false, false, false]
abbrev z76_29 : Array Bool := #[true, true, true, true, true, true, true, true, true, true, true, true, true, true, true, true, true, true, true, true, true, true, true, true, true, true, true, true, true, false, false, false, false, false, false, false, false, false, false, false, false, false, false, false, false, false, false, false, false, false, false, false, false, false, false, false, false, false, false, false, false, false, false, false, false]
abbrev z76_30 : Array Bool := #[true, true, true, true, true, true, true, true, true, true, true, true, true, true, true, true, true, true, true, true, true, true, true, true, true, true, true, true, true, true, false, false, false, false, false, false, false, false, false, false, false, false, false, false, false, false, false, false, false, false, false, false, false, false, false, false, false, false, false, false, false, false, false, false, false]
abbrev z76_31 : Array Bool := #[true, true, true, true, true, true, true, true, true, true, true, true, true, true, true, true, true, true, true, true, true, true, true, true, true, true, true, true, true, true, true, false, false, false, false, false, false, false, false, false, false, false, false, false, false, false, false, false, false, false, false, false, false, false, false, false, false, false, false, false, false, false, false, false, false]
abbrev z76_32 : Array Bool := #[true, true, true, true, true, true, true, true, true, true, true, true, true, true, true, true, true, true, true, true, true, true, true, true, true, true, true, true, true, true, true, true, false, false, false, false, false, false, false, false, false, false, false, false, false, false, false, false, false, false, false, false, false, false, false, false, false, false, false, false, false, false, false, false, false]
abbrev z76_33 : Array Bool := #[true, true, true, true, true, true, true, true, true, true, true, true, true, true, true, true, true, true, true, true, true, true, true, true, true, true, true, true, true, true, true, true, true, false, false, false, false, false, false, false, false, false, false, false, false, false, false, false, false, false, false, false, false, false, false, false, false, false, false, false, false, false, false, false, false]
abbrev z76_34 : Array Bool := #[true, true, true, true, true, true, true, true, true, true, true, true, true, true, true, true, true, true, true, true, true, true, true, true, true, true, true, true, true, true, true, true, true, true, false, false, false, false, false, false, false, false, false, false, false, false, false, false, false, false, false, false, false, false, false, false, false, false, false, false, false, false, false, false, false]
abbrev z76_35 : Array Bool := #[true, true, true, true, true, true, true, true, true, true, true, true, true, true, true, true, true, true, true, true, true, true, true, true, true, true, true, true, true, true, true, true, true, true, true, false, false, false, false, false, false, false, false, false, false, false, false, false, false, false, false, false, false, false, false, false, false, false, false, false, false, false, false, false, false]
abbrev z76_36 : Array Bool := #[true, true, true, true, true, true, true, true, true, true, true, true, true, true, true, true, true, true, true, true, true, true, true, true, true, true, true, true, true, true, true, true, true, true, true, true, false, false, false, false, false, false, false, false, false, false, false, false, false, false, false, false, false, false, false, false, false, false, false, false, false, false, false, false, false]
abbrev z76_37 : Array Bool := #[true, true, true, true, true, true, true, true, true, true, true, true, true, true, true, true, true, true, true, true, true, true, true, true, true, true, true, true, true, true, true, true, true, true, true, true, true, false, false, false, false, false, false, false, false, false, false, false, false, false, false, false, false, false, false, false, false, false, false, false, false, false, false, false, false]
abbrev z76_38 : Array Bool := #[true, true, true, true, true, true, true, true, true, true, true, true, true, true, true, true, true, true, true, true, true, true, true, true, true, true, true, true, true, true, true, true, true, true, true, true, true, true, false, false, false, false, false, false, false, false, false, false, false, false, false, false, false, false, false, false, false, false, false, false, false, false, false, false, false]
abbrev z76_39 : Array Bool := #[true, true, true, true, true, true, true, true, true, true, true, true, true, true, true, true, true, true, true, true, true, true, true, true, true, true, true, true, true, true, true, true, true, true, true, true, true, true, true, false, false, false, false, false, false, false, false, false, false, false, false, false, false, false, false, false, false, false, false, false, false, false, false, false, false]
abbrev z76_40 : Array Bool := #[true, true, true, true, true, true, true, true, true, true, true, true, true, true, true, true, true, true, true, true, true, true, true, true, true, true, true, true, true, true, true, true, true, true, true, true, true, true, true, true, false, false, false, false, false, false, false, false, false, false, false, false, false, false, false, false, false, false, false, false, false, false, false, false, false]
abbrev z76_41 : Array Bool := #[true, true, true, true, true, true, true, true, true, true, true, true, true, true, true, true, true, true, true, true, true, true, true, true, true, true, true, true, true, true, true, true, true, true, true, true, true, true, true, true, true, false, false, false, false, false, false, false, false, false, false, false, false, false, false, false, false, false, false, false, false, false, false, false, false]
abbrev z76_42 : Array Bool := #[true, true, true, true, true, true, true, true, true, true, true, true, true, true, true, true, true, true, true, true, true, true, true, true, true, true, true, true, true, true, true, true, true, true, true, true, true, true, true, true, true, true, false, false, false, false, false, false, false, false, false, false, false, false, false, false, false, false, false, false, false, false, false, false, false]
abbrev z76_43 : Array Bool := #[true, true, true, true, true, true, true, true, true, true, true, true, true, true, true, true, true, true, true, true, true, true, true, true, true, true, true, true, true, true, true, true, true, true, true, true, true, true, true, true, true, true, true, false, false, false, false, false, false, false, false, false, false, false, false, false, false, false, false, false, false, false, false, false, false]
abbrev z76_44 : Array Bool := #[true, true, true, true, true, true, true, true, true, true, true, true, true, true, true, true, true, true, true, true, true, true, true, true, true, true, true, true, true, true, true, true, true, true, true, true, true, true, true, true, true, true, true, true, false, false, false, false, false, false, false, false, false, false, false, false, false, false, false, false, false, false, false, false, false]
abbrev z76_45 : Array Bool := #[true, true, true, true, true, true, true, true, true, true, true, true, true, true, true, true, true, true, true, true, true, true, true, true, true, true, true, true, true, true, true, true, true, true, true, true, true, true, true, true, true, true, true, true, true, false, false, false, false, false, false, false, false, false, false, false, false, false, false, false, false, false, false, false, false]
abbrev z76_46 : Array Bool := #[true, true, true, true, true, true, true, true, true, true, true, true, true, true, true, true, true, true, true, true, true, true, true, true, true, true, true, true, true, true, true, true, true, true, true, true, true, true, true, true, true, true, true, true, true, true, false, false, false, false, false, false, false, false, false, false, false, false, false, false, false, false, false, false, false]
abbrev z76_47 : Array Bool := #[true, true, true, true, true, true, true, true, true, true, true, true, true, true, true, true, true, true, true, true, true, true, true, true, true, true, true, true, true, true, true, true, true, true, true, true, true, true, true, true, true, true, true, true, true, true, true, false, false, false, false, false, false, false, false, false, false, false, false, false, false, false, false, false, false]
abbrev z76_48 : Array Bool := #[true, true, true, true, true, true, true, true, true, true, true, true, true, true, true, true, true, true, true, true, true, true, true, true, true, true, true, true, true, true, true, true, true, true, true, true, true, true, true, true, true, true, true, true, true, true, true, true, false, false, false, false, false, false, false, false, false, false, false, false, false, false, false, false, false]
abbrev z76_49 : Array Bool := #[true, true, true, true, true, true, true, true, true, true, true, true, true, true, true, true, true, true, true, true, true, true, true, true, true, true, true, true, true, true, true, true, true, true, true, true, true, true, true, true, true, true, true, true, true, true, true, true, true, false, false, false, false, false, false, false, false, false, false, false, false, false, false, false, false]
abbrev z76_50 : Array Bool := #[true, true, true, true, true, true, true, true, true, true, true, true, true, true, true, true, true, true, true, true, true, true, true, true, true, true, true, true, true, true, true, true, true, true, true, true, true, true, true, true, true, true, true, true, true, true, true, true, true, true, false, false, false, false, false, false, false, false, false, false, false, false, false, false, false]
abbrev z76_51 : Array Bool := #[true, true, true, true, true, true, true, true, true, true, true, true, true, true, true, true, true, true, true, true, true, true, true, true, true, true, true, true, true, true, true, true, true, true, true, true, true, true, true, true, true, true, true, true, true, true, true, true, true, true, true, false, false, false, false, false, false, false, false, false, false, false, false, false, false]
abbrev z76_52 : Array Bool := #[true, true, true, true, true, true, true, true, true, true, true, true, true, true, true, true, true, true, true, true, true, true, true, true, true, true, true, true, true, true, true, true, true, true, true, true, true, true, true, true, true, true, true, true, true, true, true, true, true, true, true, true, false, false, false, false, false, false, false, false, false, false, false, false, false]
abbrev z76_53 : Array Bool := #[true, true, true, true, true, true, true, true, true, true, true, true, true, true, true, true, true, true, true, true, true, true, true, true, true, true, true, true, true, true, true, true, true, true, true, true, true, true, true, true, true, true, true, true, true, true, true, true, true, true, true, true, true, false, false, false, false, false, false, false, false, false, false, false, false]
abbrev z76_54 : Array Bool := #[true, true, true, true, true, true, true, true, true, true, true, true, true, true, true, true, true, true, true, true, true, true, true, true, true, true, true, true, true, true, true, true, true, true, true, true, true, true, true, true, true, true, true, true, true, true, true, true, true, true, true, true, true, true, false, false, false, false, false, false, false, false, false, false, false]
abbrev z76_55 : Array Bool := #[true, true, true, true, true, true, true, true, true, true, true, true, true, true, true, true, true, true, true, true, true, true, true, true, true, true, true, true, true, true, true, true, true, true, true, true, true, true, true, true, true, true, true, true, true, true, true, true, true, true, true, true, true, true, true, false, false, false, false, false, false, false, false, false, false]
abbrev z76_56 : Array Bool := #[true, true, true, true, true, true, true, true, true, true, true, true, true, true, true, true, true, true, true, true, true, true, true, true, true, true, true, true, true, true, true, true, true, true, true, true, true, true, true, true, true, true, true, true, true, true, true, true, true, true, true, true, true, true, true, true, false, false, false, false, false, false, false, false, false]
abbrev z76_57 : Array Bool := #[true, true, true, true, true, true, true, true, true, true, true, true, true, true, true, true, true, true, true, true, true, true, true, true, true, true, true, true, true, true, true, true, true, true, true, true, true, true, true, true, true, true, true, true, true, true, true, true, true, true, true, true, true, true, true, true, true, false, false, false, false, false, false, false, false]
abbrev z76_58 : Array Bool := #[true, true, true, true, true, true, true, true, true, true, true, true, true, true, true, true, true, true, true, true, true, true, true, true, true, true, true, true, true, true, true, true, true, true, true, true, true, true, true, true, true, true, true, true, true, true, true, true, true, true, true, true, true, true, true, true, true, true, false, false, false, false, false, false, false]
abbrev z76_59 : Array Bool := #[true, true, true, true, true, true, true, true, true, true, true, true, true, true, true, true, true, true, true, true, true, true, true, true, true, true, true, true, true, true, true, true, true, true, true, true, true, true, true, true, true, true, true, true, true, true, true, true, true, true, true, true, true, true, true, true, true, true, true, false, false, false, false, false, false]
abbrev z76_60 : Array Bool := #[true, true, true, true, true, true, true, true, true, true, true, true, true, true, true, true, true, true, true, true, true, true, true, true, true, true, true, true, true, true, true, true, true, true, true, true, true, true, true, true, true, true, true, true, true, true, true, true, true, true, true, true, true, true, true, true, true, true, true, true, false, false, false, false, false]
abbrev z76_61 : Array Bool := #[true, true, true, true, true, true, true, true, true, true, true, true, true, true, true, true, true, true, true, true, true, true, true, true, true, true, true, true, true, true, true, true, true, true, true, true, true, true, true, true, true, true, true, true, true, true, true, true, true, true, true, true, true, true, true, true, true, true, true, true, true, false, false, false, false]
abbrev z76_62 : Array Bool := #[true, true, true, true, true, true, true, true, true, true, true, true, true, true, true, true, true, true, true, true, true, true, true, true, true, true, true, true, true, true, true, true, true, true, true, true, true, true, true, true, true, true, true, true, true, true, true, true, true, true, true, true, true, true, true, true, true, true, true, true, true, true, false, false, false]
abbrev z76_63 : Array Bool := #[true, true, true, true, true, true, true, true, true, true, true, true, true, true, true, true, true, true, true, true, true, true, true, true, true, true, true, true, true, true, true, true, true, true, true, true, true, true, true, true, true, true, true, true, true, true, true, true, true, true, true, true, true, true, true, true, true, true, true, true, true, true, true, false, false]
abbrev z76_64 : Array Bool := #[true, true, true, true, true, true, true, true, true, true, true, true, true, true, true, true, true, true, true, true, true, true, true, true, true, true, true, true, true, true, true, true, true, true, true, true, true, true, true, true, true, true, true, true, true, true, true, true, true, true, true, true, true, true, true, true, true, true, true, true, true, true, true, true, false]
abbrev z76_65 : Array Bool := #[true, true, true, true, true, true, true, true, true, true, true, true, true, true, true, true, true, true, true, true, true, true, true, true, true, true, true, true, true, true, true, true, true, true, true, true, true, true, true, true, true, true, true, true, true, true, true, true, true, true, true, true, true, true, true, true, true, true, true, true, true, true, true, true, true]
abbrev z76_66 : Array Bool := #[true, true, true, true, true, true, true, true, true, true, true, true, true, true, true, true, true, true, true, true, true, true, true, true, true, true, true, true, true, true, true, false, true, false, false, false, false, false, false, false, false, false, false, false, false, false, false, false, false, false, false, false, false, false, false, false, false, false, false, false, false, false, false, false, false]
abbrev z76_67 : Array Bool := #[true, true, true, true, true, true, true, true, true, true, true, true, true, true, true, true, true, true, true, true, true, true, true, true, true, true, true, true, true, true, true, true, true, true, true, true, true, true, true, true, true, true, true, true, true, true, true, true, false, true, false, false, false, false, false, false, false, false, false, false, false, false, false, false, false]
abbrev z76_68 : Array Bool := #[true, true, true, true, true, true, true, true, true, true, true, true, true, true, true, true, true, true, true, true, true, true, true, true, true, true, true, true, true, true, true, true, true, true, true, true, true, true, true, true, true, true, true, true, true, true, true, true, false, true, false, true, false, false, false, false, false, false, false, false, false, false, false, false, false]
abbrev z76_69 : Array Bool := #[true, true, true, true, true, true, true, true, true, true, true, true, true, true, true, true, true, true, true, true, true, true, true, true, true, true, true, true, true, true, true, true, true, true, true, true, true, true, true, true, true, true, true, true, true, true, true, true, false, true, false, true, true, false, false, false, false, false, false, false, false, false, false, false, false]
abbrev z76_70 : Array Bool := #[true, true, true, true, true, true, true, true, true, true, true, true, true, true, true, true, true, true, true, true, true, true, true, true, true, true, true, true, true, true, true, true, true, true, true, true, true, true, true, true, true, true, true, true, true, true, true, true, true, true, false, true, true, false, false, false, false, false, false, false, false, false, false, false, false]
abbrev z76_71 : Array Bool := #[true, true, true, true, true, true, true, true, true, true, true, true, true, true, true, true, true, true, true, true, true, true, true, true, true, true, true, true, true, true, true, true, true, true, true, true, true, true, true, true, true, true, true, true, true, true, true, true, true, true, true, true, true, true, true, true, true, true, true, true, false, true, false, false, false]
abbrev z76_72 : Array Bool := #[true, true, true, true, true, true, true, true, true, true, true, true, true, true, true, true, true, true, true, false, false, false, false, false, false, false, false, false, false, false, false, false, false, false, false, false, false, false, false, false, false, false, false, false, false, false, false, false, false, false, false, false, false, false, false, false, false, false, false, false, false, false, false, false, false]
abbrev bN76 := @blk_drewN
abbrev bD76 := @blk_drew
abbrev bA76 := @blk_alloc
abbrev bS76 := @below_set
abbrev eN76 := @pw_below_drewN
abbrev eD76 := @below_drew1
abbrev bC76 := @blk_cell
/-! ### spec_l6Ok: function 76 -/
def spec_l6Ok.l0 : Nat → Int → Int → Int → List (S89) → Option (Bool)
  | 0, _, _, _, _ => none
  | k + 1, x3, x476000, x476001, x476002 => if x3 < (x476002.length : Int) then (if 0 ≤ x3 then ((spec_l1In.f ((rd_T89 x476002 x3).f0) 0 (wrap64 (x476000 - 1))).bind fun t480 => (if t480 = true then ((spec_l1In.f ((rd_T89 x476002 x3).f1) 0 (wrap64 (x476000 - 1))).bind fun t481 => (if t481 = true then (if ((rd_T89 x476002 x3).f0) = ((rd_T89 x476002 x3).f1) then (some false) else ((spec_l1In.f ((rd_T89 x476002 x3).f2) 0 199).bind fun t482 => (if t482 = true then ((spec_l1In.f ((rd_T89 x476002 x3).f3) ((rd_T89 x476002 x3).f2) 199).bind fun t483 => (if t483 = true then ((spec_l1In.f ((rd_T89 x476002 x3).f4) 0 5).bind fun t484 => (if t484 = true then (if x3 > 0 then (if 0 ≤ (wrap64 (x3 - 1)) then (if (wrap64 (x3 - 1)) < (x476002.length : Int) then (if ((rd_T89 x476002 x3).f2) < ((rd_T89 x476002 (wrap64 (x3 - 1))).f2) then (some false) else ((spec_l6Goes.f k x476000 x476001 x476002 x3).bind fun t486 => (if t486 = true then (spec_l6Ok.l0 k (wrap64 (x3 + 1)) x476000 x476001 x476002) else (some false)))) else (none)) else (none)) else ((spec_l6Goes.f k x476000 x476001 x476002 x3).bind fun t487 => (if t487 = true then (spec_l6Ok.l0 k (wrap64 (x3 + 1)) x476000 x476001 x476002) else (some false)))) else (some false))) else (some false))) else (some false)))) else (some false))) else (some false))) else (none)) else ((spec_l1In.f x476000 1 8).bind fun t476 => (if t476 = true then (if (x476002.length : Int) ≤ 16 then ((spec_l1In.f x476001 0 20).bind fun t477 => (some t477)) else (some false)) else (some false)))
def spec_l6Ok.f (k : Nat) (a0_0 : Int) (a0_1 : Int) (l0_2 : List (S89)) : Option (Bool) := spec_l6Ok.l0 k 0 a0_0 a0_1 l0_2
theorem spec_l6Ok.mono_l : ∀ k, (∀ y0 y1 y2 y3, LeO (spec_l6Ok.l0 k y0 y1 y2 y3) (spec_l6Ok.l0 (k + 1) y0 y1 y2 y3))
  | 0 => fun _ _ _ _ r h => by simp [spec_l6Ok.l0] at h
  | k + 1 => by
    have ih0 := spec_l6Ok.mono_l k
    · intro y0 y1 y2 y3
      unfold spec_l6Ok.l0
      repeat' first
      | (with_reducible exact ih0 _ _ _ _)
      | (with_reducible exact spec_l6Goes.mono _ _ _ _ _)
      | (with_reducible exact LeO.refl _)
      | (with_reducible exact LeO.none _)
      | (with_reducible refine LeO.ite ?_ ?_)
      | (with_reducible refine LeO.bind ?_ (fun _ => ?_))
      | exact ih0 _ _ _ _
      | exact spec_l6Goes.mono _ _ _ _ _
      | exact LeO.none _
      | refine LeO.ite ?_ ?_
      | refine LeO.bind ?_ (fun _ => ?_)
theorem spec_l6Ok.mono : ∀ a0 a1 a2 k, LeO (spec_l6Ok.f k a0 a1 a2) (spec_l6Ok.f (k + 1) a0 a1 a2) := by
  intro a0 a1 a2 k
  have ih0 := spec_l6Ok.mono_l k
  unfold spec_l6Ok.f
  repeat' first
      | (with_reducible exact ih0 _ _ _ _)
      | (with_reducible exact spec_l6Goes.mono _ _ _ _ _)
      | (with_reducible exact LeO.refl _)
      | (with_reducible exact LeO.none _)
      | (with_reducible refine LeO.ite ?_ ?_)
      | (with_reducible refine LeO.bind ?_ (fun _ => ?_))
      | exact ih0 _ _ _ _
      | exact spec_l6Goes.mono _ _ _ _ _
      | exact LeO.none _
      | refine LeO.ite ?_ ?_
      | refine LeO.bind ?_ (fun _ => ?_)
def spec_l6Ok.T5 : Bool × List (List Nat × List Nat) := (true, [([], []), ([0], [0]), ([], []), ([2], [2]), ([3], [3]), ([1, 4], [1, 4]), ([5], [5]), ([6, 5], [6]), ([7], [7]), ([8, 7], [7, 8]), ([7], [7]), ([10, 7], [7, 10]), ([11, 7], [7, 11]), ([9, 12, 7, 7], [7, 9, 12]), ([13, 7], [7, 13]), ([7, 14], [7, 14]), ([15, 13], [15]), ([16], [16]), ([17, 16], [16, 17]), ([16], [16]), ([19, 16], [16, 19]), ([18, 20, 16], [16, 18, 20]), ([16, 21], [16, 21]), ([22, 16], [22]), ([23], [23]), ([24, 23], [23, 24]), ([25, 23, 23], [23, 25]), ([26, 23], [23, 26]), ([23, 27], [23, 27]), ([28, 26], [28]), ([29], [29]), ([30, 29], [29, 30]), ([29], [29]), ([32, 29], [29, 32]), ([31, 33, 29, 29], [29, 31, 33]), ([34, 29], [29, 34]), ([29, 35], [29, 35]), ([36, 34], [36]), ([37], [37]), ([38, 37], [37, 38]), ([39, 37, 37], [37, 39]), ([40, 37], [37, 40]), ([37, 41], [37, 41]), ([42, 40], [42]), ([43], [43]), ([44, 43], [43, 44]), ([45, 43, 43], [43, 45]), ([46], [46]), ([47, 46], [46, 47]), ([46], [46]), ([49, 46], [46, 49]), ([46], [46]), ([51, 46], [46, 51]), ([50, 52, 46], [46, 50, 52]), ([53, 46], [46, 53]), ([54, 46], [46, 54]), ([48, 55, 46], [46, 48, 55]), ([46, 56, 43], [43, 46, 56]), ([43, 57], [43, 57]), ([58, 46], [58]), ([59], [59]), ([59], [59]), ([60, 61, 59, 59], [59, 60, 61]), ([62, 59], [59, 62]), ([59, 63], [59, 63])])
def spec_l6Ok.B5 : List Nat := [0, 1, 0, 4, 12, 31, 63, 127, 255, 511, 255, 1279, 3327, 8191, 16383, 32767, 65535, 131071, 262143, 131071, 655359, 2097151, 4194303, 8388607, 16777215, 33554431, 67108863, 134217727, 268435455, 536870911, 1073741823, 2147483647, 1073741823, 5368709119, 17179869183, 34359738367, 68719476735, 137438953471, 274877906943, 549755813887, 1099511627775, 2199023255551, 4398046511103, 8796093022207, 17592186044415, 35184372088831, 70368744177663, 140737488355327, 281474976710655, 140737488355327, 703687441776639, 140737488355327, 2392537302040575, 8584986789675007, 17592186044415999, 35606584553897983, 72057594037927935, 144115188075855871, 288230376151711743, 576460752303423487, 1152921504606846975, 1152921504606846975, 4611686018427387903, 9223372036854775807, 18446744073709551615]
theorem spec_l6Ok.tab5 : rtab .any (opsOf Try.f76 5) = spec_l6Ok.T5 := by kernel_rfl
theorem spec_l6Ok.bits5 : waitsOk spec_l6Ok.T5.2 spec_l6Ok.B5 = true := by kernel_rfl
set_option maxHeartbeats 200000000 in
set_option maxRecDepth 100000 in
theorem spec_l6Ok.calls (k : Nat) (a0_0 : Int) (a0_1 : Int) (A0_2 : Option Addr) (c0_2 : Nat) (l0_2 : List (S89)) (r : Bool) (w : World) (hr0_2 : Kd.C k89 w A0_2 l0_2.length l0_2) (hc0_2 : l0_2.length ≤ c0_2) (h : spec_l6Ok.f k a0_0 a0_1 l0_2 = some r) :
    Calls Try.prog 76 #[.agg #[.int .i64 a0_0, .int .i64 a0_1, .slice A0_2 l0_2.length c0_2]] w fun e w' => e = .returned (.bool r) ∧ Below w.heap.size w w' := by
  have hu54 := Try.underlying54
  have hu89 := Try.underlying89
  have HR0_2 := Aside0.mk hr0_2
  have HC0_2 := Aside0.mk hc0_2
  clear hr0_2 hc0_2
  have HB := Aside0.mk (Below.refl w.heap.size w)
  have H : (spec_l6Ok.l0 k 0 a0_0 a0_1 l0_2) = some r := h
  clear h
  have H' := Aside0.mk H
  clear H
  go_enter Try.func76, Try.ntmps76
  go_wp2_with (first | ((with_reducible refine gate_dst (N := 1) rfl ?_); (try (refine gate_guard (by rfl) ?_; dsimp only)); refine box_event ?hg (N := 1) ?hd (cs := #[.int .i64 a0_0, .int .i64 a0_1, .slice A0_2 l0_2.length c0_2]) (t := 54) ?hr ?_; (case hd => rfl); (case hg => rfl); (case hr => first | (go_simp; done) | (go_simp; rfl)); intro gb475 hg w2 hbox hb; have n0_ := Aside0.mk (below_step (ne_ HB.out) hb); have n1_ := Aside0.mk (hbox); have n2_ := Aside0.mk ((by rw [hg]; exact (below_size (ne_ HB.out)) : w.heap.size ≤ gb475)); have n3_ := Aside0.mk ((by rw [hg]; exact (below_size (ne_ HB.out)) : w.heap.size ≤ gb475)); clear HB; have HB := n0_; have BK475 := n1_; have GW475 := n2_; have GE475 := n3_; clear n0_ n1_ n2_ n3_; clear hb hbox hg))
  go_loopg [3] k (fun kq v3 w' => ∃ (x3_1 : Int), v3 = .int .i64 x3_1 ∧ Aside0 (spec_l6Ok.l0 kq x3_1 a0_0 a0_1 l0_2 = some r) ∧ Aside0 (kq ≤ k) ∧ Aside0 (w'.heap[gb475]? = some (.cells #[.int .i64 a0_0, .int .i64 a0_1, (.slice A0_2 l0_2.length c0_2)] 54 (0, 0))) ∧ Aside0 (Below w.heap.size w w'))
  case atStart => exact ⟨(0), ns_, H', ⟨Nat.le_refl _⟩, ⟨by (with_reducible repeat (first | refine bN76 ?_ _ | refine bD76 ?_ | refine bA76 ?_ _)); exact BK475.out⟩, ⟨by repeat (first | (with_reducible first | exact HB.out | apply below_alloc | apply eN76 | apply eD76 | refine bS76 ?_ GE475.out) | exact HB.out)⟩⟩
  case round =>
   clear H'
   try clear p2
   obtain ⟨x3_1, rfl, HA, HK1, BK475, HB⟩ := hrel
   cases gk with
   | zero => exact absurd HA.out (by simp [spec_l6Ok.l0])
   | succ k1 =>
    have H := HA.out
    clear HA
    simp only [spec_l6Ok.l0] at H
    by_cases c3 : x3_1 < (l0_2.length : Int)
    ·rw [if_pos c3] at H
     have c3b0 : decide (x3_1 < (l0_2.length : Int)) = true := decide_eq_true c3
     clear c3
     by_cases c4 : 0 ≤ x3_1
     ·rw [if_pos c4] at H
      have c4b0 : decide (0 ≤ x3_1) = true := decide_eq_true c4
      clear c4
      replace H := Option.bind_eq_some_iff.mp H
      obtain ⟨t480, A50, H⟩ := H
      try dsimp only at H
      have A5 := Aside0.mk A50
      clear A50
      by_cases c6 : t480 = true
      ·subst c6
       have H1 : ((spec_l1In.f ((rd_T89 l0_2 x3_1).f1) 0 (wrap64 (a0_0 - 1))).bind fun t481 => (if t481 = true then (if ((rd_T89 l0_2 x3_1).f0) = ((rd_T89 l0_2 x3_1).f1) then (some false) else ((spec_l1In.f ((rd_T89 l0_2 x3_1).f2) 0 199).bind fun t482 => (if t482 = true then ((spec_l1In.f ((rd_T89 l0_2 x3_1).f3) ((rd_T89 l0_2 x3_1).f2) 199).bind fun t483 => (if t483 = true then ((spec_l1In.f ((rd_T89 l0_2 x3_1).f4) 0 5).bind fun t484 => (if t484 = true then (if x3_1 > 0 then (if 0 ≤ (wrap64 (x3_1 - 1)) then (if (wrap64 (x3_1 - 1)) < (l0_2.length : Int) then (if ((rd_T89 l0_2 x3_1).f2) < ((rd_T89 l0_2 (wrap64 (x3_1 - 1))).f2) then (some false) else ((spec_l6Goes.f k1 a0_0 a0_1 l0_2 x3_1).bind fun t486 => (if t486 = true then (spec_l6Ok.l0 k1 (wrap64 (x3_1 + 1)) a0_0 a0_1 l0_2) else (some false)))) else (none)) else (none)) else ((spec_l6Goes.f k1 a0_0 a0_1 l0_2 x3_1).bind fun t487 => (if t487 = true then (spec_l6Ok.l0 k1 (wrap64 (x3_1 + 1)) a0_0 a0_1 l0_2) else (some false)))) else (some false))) else (some false))) else (some false)))) else (some false))) = some r := by rw [if_pos rfl] at H; exact H
       clear H
       have H := H1
       clear H1
       replace H := Option.bind_eq_some_iff.mp H
       obtain ⟨t481, A70, H⟩ := H
       try dsimp only at H
       have A7 := Aside0.mk A70
       clear A70
       by_cases c8 : t481 = true
       ·subst c8
        have H1 : (if ((rd_T89 l0_2 x3_1).f0) = ((rd_T89 l0_2 x3_1).f1) then (some false) else ((spec_l1In.f ((rd_T89 l0_2 x3_1).f2) 0 199).bind fun t482 => (if t482 = true then ((spec_l1In.f ((rd_T89 l0_2 x3_1).f3) ((rd_T89 l0_2 x3_1).f2) 199).bind fun t483 => (if t483 = true then ((spec_l1In.f ((rd_T89 l0_2 x3_1).f4) 0 5).bind fun t484 => (if t484 = true then (if x3_1 > 0 then (if 0 ≤ (wrap64 (x3_1 - 1)) then (if (wrap64 (x3_1 - 1)) < (l0_2.length : Int) then (if ((rd_T89 l0_2 x3_1).f2) < ((rd_T89 l0_2 (wrap64 (x3_1 - 1))).f2) then (some false) else ((spec_l6Goes.f k1 a0_0 a0_1 l0_2 x3_1).bind fun t486 => (if t486 = true then (spec_l6Ok.l0 k1 (wrap64 (x3_1 + 1)) a0_0 a0_1 l0_2) else (some false)))) else (none)) else (none)) else ((spec_l6Goes.f k1 a0_0 a0_1 l0_2 x3_1).bind fun t487 => (if t487 = true then (spec_l6Ok.l0 k1 (wrap64 (x3_1 + 1)) a0_0 a0_1 l0_2) else (some false)))) else (some false))) else (some false))) else (some false)))) = some r := by rw [if_pos rfl] at H; exact H
        clear H
        have H := H1
        clear H1
        by_cases c9 : ((rd_T89 l0_2 x3_1).f0) = ((rd_T89 l0_2 x3_1).f1)
        ·rw [if_pos c9] at H
         have c9b0 : (((rd_T89 l0_2 x3_1).f0) == ((rd_T89 l0_2 x3_1).f1)) = true := beq_iff_eq.mpr c9
         have c9b1 : (((rd_T89 l0_2 x3_1).f0) != ((rd_T89 l0_2 x3_1).f1)) = false := bne_eq_false_iff_eq.mpr c9
         clear c9
         obtain rfl := Option.some.inj H
         have hcz10_0 : wr.cell? ⟨gb475, 0, none⟩ = some (.int .i64 a0_0) := (bC76 BK475.out 0).trans rfl
         have hcz10_1 : wr.cell? ⟨gb475, 1, none⟩ = some (.int .i64 a0_1) := (bC76 BK475.out 1).trans rfl
         have hcz10_2 : wr.cell? ⟨gb475, 2, none⟩ = some (.slice A0_2 l0_2.length c0_2) := (bC76 BK475.out 2).trans rfl
         have hfz10_0 := blk_frozen BK475.out 0
         have hfz10_1 := blk_frozen BK475.out 1
         have hfz10_2 := blk_frozen BK475.out 2
         have p478 : 0 ≤ (x3_1 : Int) := of_decide_eq_true nx_
         have q478 : x3_1 < (l0_2.length : Int) := of_decide_eq_true nx_
         obtain ⟨ad478, e478, hx478_0, hx478_1, hx478_2, hx478_3, hx478_4⟩ := at_T89 HR0_2.out x3_1 p478 q478
         cases e478
         replace hx478_0 := (HB.out.cell (World.block_lt_of_cell? w _ hx478_0)).trans hx478_0
         replace hx478_1 := (HB.out.cell (World.block_lt_of_cell? w _ hx478_1)).trans hx478_1
         replace hx478_2 := (HB.out.cell (World.block_lt_of_cell? w _ hx478_2)).trans hx478_2
         replace hx478_3 := (HB.out.cell (World.block_lt_of_cell? w _ hx478_3)).trans hx478_3
         replace hx478_4 := (HB.out.cell (World.block_lt_of_cell? w _ hx478_4)).trans hx478_4
         replace p478 := eq_true p478
         replace q478 := eq_true q478
         try go_wp2_with (first | ((with_reducible refine gate_dst (N := 4) rfl ?_); (try (refine gate_guard (by rfl) ?_; dsimp only)); refine box_event ?hg (N := 4) ?hd (cs := #[.int .i64 0, .int .i64 0, .int .i64 0, .int .i64 0, .int .i64 0]) (t := 89) ?hr ?_; (case hd => rfl); (case hg => rfl); (case hr => first | (go_simp; done) | (go_simp; rfl)); intro gb479 hg w11 hbox hb; have n0_ := Aside0.mk (blk_below (g := gb475) (o := .cells #[.int .i64 a0_0, .int .i64 a0_1, .slice (some ad478) l0_2.length c0_2] 54 (0, 0)) (nb_ BK475.out) hb); have n1_ := Aside0.mk (below_step (ne_ HB.out) hb); have n2_ := Aside0.mk (hbox); have n3_ := Aside0.mk ((by rw [hg]; exact (below_size (ne_ HB.out)) : w.heap.size ≤ gb479)); have n4_ := Aside0.mk ((by rw [hg]; exact (below_size (ne_ HB.out)) : w.heap.size ≤ gb479)); have n5_ := Aside0.mk ((by rw [hg]; exact Nat.ne_of_lt (blk_lt (g := gb475) (o := .cells #[.int .i64 a0_0, .int .i64 a0_1, .slice (some ad478) l0_2.length c0_2] 54 (0, 0)) (nb_ BK475.out)) : gb475 ≠ gb479)); have n6_ := Aside0.mk ((by rw [hg]; exact Nat.ne_of_gt (blk_lt (g := gb475) (o := .cells #[.int .i64 a0_0, .int .i64 a0_1, .slice (some ad478) l0_2.length c0_2] 54 (0, 0)) (nb_ BK475.out)) : gb479 ≠ gb475)); clear BK475; clear HB; have BK475 := n0_; have HB := n1_; have BK479 := n2_; have GW479 := n3_; have GE479 := n4_; have NB475_479 := n5_; have NB479_475 := n6_; clear n0_ n1_ n2_ n3_ n4_ n5_ n6_; clear hb hbox hg; have hnb12 := NB479_475.out; have hnc12 := NB475_479.out; have hcz13_0 : w11.cell? ⟨gb479, 0, none⟩ = some (.int .i64 0) := (bC76 BK479.out 0).trans rfl; have hcz13_1 : w11.cell? ⟨gb479, 1, none⟩ = some (.int .i64 0) := (bC76 BK479.out 1).trans rfl; have hcz13_2 : w11.cell? ⟨gb479, 2, none⟩ = some (.int .i64 0) := (bC76 BK479.out 2).trans rfl; have hcz13_3 : w11.cell? ⟨gb479, 3, none⟩ = some (.int .i64 0) := (bC76 BK479.out 3).trans rfl; have hcz13_4 : w11.cell? ⟨gb479, 4, none⟩ = some (.int .i64 0) := (bC76 BK479.out 4).trans rfl; have hfz13_0 := blk_frozen BK479.out 0; have hfz13_1 := blk_frozen BK479.out 1; have hfz13_2 := blk_frozen BK479.out 2; have hfz13_3 := blk_frozen BK479.out 3; have hfz13_4 := blk_frozen BK479.out 4))
         have n0_ : Aside0 ((((((w11.setCell ⟨gb479, 0, none⟩ (.int .i64 ((rd_T89 l0_2 x3_1).f0))).setCell ⟨gb479, 1, none⟩ (.int .i64 ((rd_T89 l0_2 x3_1).f1))).setCell ⟨gb479, 2, none⟩ (.int .i64 ((rd_T89 l0_2 x3_1).f2))).setCell ⟨gb479, 3, none⟩ (.int .i64 ((rd_T89 l0_2 x3_1).f3))).setCell ⟨gb479, 4, none⟩ (.int .i64 ((rd_T89 l0_2 x3_1).f4))).heap[gb475]? = some (.cells #[.int .i64 a0_0, .int .i64 a0_1, .slice (some ad478) l0_2.length c0_2] 54 (0, 0))) := ⟨by (with_reducible repeat (first | refine bN76 ?_ _ | refine bD76 ?_ | refine bA76 ?_ _)); refine blk_far ?_ NB475_479.out _; (with_reducible repeat (first | refine bN76 ?_ _ | refine bD76 ?_ | refine bA76 ?_ _)); refine blk_far ?_ NB475_479.out _; (with_reducible repeat (first | refine bN76 ?_ _ | refine bD76 ?_ | refine bA76 ?_ _)); refine blk_far ?_ NB475_479.out _; (with_reducible repeat (first | refine bN76 ?_ _ | refine bD76 ?_ | refine bA76 ?_ _)); refine blk_far ?_ NB475_479.out _; (with_reducible repeat (first | refine bN76 ?_ _ | refine bD76 ?_ | refine bA76 ?_ _)); refine blk_far ?_ NB475_479.out _; (with_reducible repeat (first | refine bN76 ?_ _ | refine bD76 ?_ | refine bA76 ?_ _)); exact BK475.out⟩
         have n1_ : Aside0 ((((((w11.setCell ⟨gb479, 0, none⟩ (.int .i64 ((rd_T89 l0_2 x3_1).f0))).setCell ⟨gb479, 1, none⟩ (.int .i64 ((rd_T89 l0_2 x3_1).f1))).setCell ⟨gb479, 2, none⟩ (.int .i64 ((rd_T89 l0_2 x3_1).f2))).setCell ⟨gb479, 3, none⟩ (.int .i64 ((rd_T89 l0_2 x3_1).f3))).setCell ⟨gb479, 4, none⟩ (.int .i64 ((rd_T89 l0_2 x3_1).f4))).heap[gb479]? = some (.cells #[.int .i64 ((rd_T89 l0_2 x3_1).f0), .int .i64 ((rd_T89 l0_2 x3_1).f1), .int .i64 ((rd_T89 l0_2 x3_1).f2), .int .i64 ((rd_T89 l0_2 x3_1).f3), .int .i64 ((rd_T89 l0_2 x3_1).f4)] 89 (0, 0))) := ⟨by (with_reducible repeat (first | refine bN76 ?_ _ | refine bD76 ?_ | refine bA76 ?_ _)); refine blk_put (cs := #[.int .i64 ((rd_T89 l0_2 x3_1).f0), .int .i64 ((rd_T89 l0_2 x3_1).f1), .int .i64 ((rd_T89 l0_2 x3_1).f2), .int .i64 ((rd_T89 l0_2 x3_1).f3), .int .i64 0]) ?_ 4 _ rfl; (with_reducible repeat (first | refine bN76 ?_ _ | refine bD76 ?_ | refine bA76 ?_ _)); refine blk_put (cs := #[.int .i64 ((rd_T89 l0_2 x3_1).f0), .int .i64 ((rd_T89 l0_2 x3_1).f1), .int .i64 ((rd_T89 l0_2 x3_1).f2), .int .i64 0, .int .i64 0]) ?_ 3 _ rfl; (with_reducible repeat (first | refine bN76 ?_ _ | refine bD76 ?_ | refine bA76 ?_ _)); refine blk_put (cs := #[.int .i64 ((rd_T89 l0_2 x3_1).f0), .int .i64 ((rd_T89 l0_2 x3_1).f1), .int .i64 0, .int .i64 0, .int .i64 0]) ?_ 2 _ rfl; (with_reducible repeat (first | refine bN76 ?_ _ | refine bD76 ?_ | refine bA76 ?_ _)); refine blk_put (cs := #[.int .i64 ((rd_T89 l0_2 x3_1).f0), .int .i64 0, .int .i64 0, .int .i64 0, .int .i64 0]) ?_ 1 _ rfl; (with_reducible repeat (first | refine bN76 ?_ _ | refine bD76 ?_ | refine bA76 ?_ _)); refine blk_put (cs := #[.int .i64 0, .int .i64 0, .int .i64 0, .int .i64 0, .int .i64 0]) ?_ 0 _ rfl; (with_reducible repeat (first | refine bN76 ?_ _ | refine bD76 ?_ | refine bA76 ?_ _)); exact BK479.out⟩
         have n2_ : Aside0 (Below w.heap.size w (((((w11.setCell ⟨gb479, 0, none⟩ (.int .i64 ((rd_T89 l0_2 x3_1).f0))).setCell ⟨gb479, 1, none⟩ (.int .i64 ((rd_T89 l0_2 x3_1).f1))).setCell ⟨gb479, 2, none⟩ (.int .i64 ((rd_T89 l0_2 x3_1).f2))).setCell ⟨gb479, 3, none⟩ (.int .i64 ((rd_T89 l0_2 x3_1).f3))).setCell ⟨gb479, 4, none⟩ (.int .i64 ((rd_T89 l0_2 x3_1).f4)))) := ⟨by repeat (first | (with_reducible first | exact HB.out | apply below_alloc | apply eN76 | apply eD76 | refine bS76 ?_ GE475.out | refine bS76 ?_ GE479.out) | exact HB.out)⟩
         (try clear BK475)
         (try clear BK479)
         (try clear HB)
         generalize (((((w11.setCell ⟨gb479, 0, none⟩ (.int .i64 ((rd_T89 l0_2 x3_1).f0))).setCell ⟨gb479, 1, none⟩ (.int .i64 ((rd_T89 l0_2 x3_1).f1))).setCell ⟨gb479, 2, none⟩ (.int .i64 ((rd_T89 l0_2 x3_1).f2))).setCell ⟨gb479, 3, none⟩ (.int .i64 ((rd_T89 l0_2 x3_1).f3))).setCell ⟨gb479, 4, none⟩ (.int .i64 ((rd_T89 l0_2 x3_1).f4))) = w14 at n0_ n1_ n2_ ⊢
         have BK475 := n0_
         have BK479 := n1_
         have HB := n2_
         clear n0_ n1_ n2_
         replace BK475 := Aside0.mk (bD76 BK475.out)
         replace BK479 := Aside0.mk (bD76 BK479.out)
         replace HB := Aside0.mk (eD76 HB.out)
         refine start_ (n := 65) (S := fun w' => w'.cell? ⟨gb479, 0, none⟩ = some (.int .i64 ((rd_T89 l0_2 x3_1).f0)) ∧ w'.cell? ⟨gb479, 1, none⟩ = some (.int .i64 ((rd_T89 l0_2 x3_1).f1)) ∧ w'.cell? ⟨gb479, 2, none⟩ = some (.int .i64 ((rd_T89 l0_2 x3_1).f2)) ∧ w'.cell? ⟨gb479, 3, none⟩ = some (.int .i64 ((rd_T89 l0_2 x3_1).f3)) ∧ w'.cell? ⟨gb479, 4, none⟩ = some (.int .i64 ((rd_T89 l0_2 x3_1).f4)) ∧ w'.cell? ⟨gb475, 0, none⟩ = some (.int .i64 a0_0) ∧ w'.cell? ⟨gb475, 1, none⟩ = some (.int .i64 a0_1) ∧ w'.cell? ⟨gb475, 2, none⟩ = some (.slice (some ad478) l0_2.length c0_2)) (ds := []) z76_0 (by kernel_rfl) rfl rfl ⟨(bC76 BK479.out 0).trans rfl, (bC76 BK479.out 1).trans rfl, (bC76 BK479.out 2).trans rfl, (bC76 BK479.out 3).trans rfl, (bC76 BK479.out 4).trans rfl, (bC76 BK475.out 0).trans rfl, (bC76 BK475.out 1).trans rfl, (bC76 BK475.out 2).trans rfl⟩ (fun hHeld => ?_); refine with_tabW spec_l6Ok.tab5 spec_l6Ok.bits5 (fun HT_ HW_ => ?_)
         generalize w14.drew = w15 at BK475 BK479 HB hHeld ⊢
         refine pu_ 0 17 z76_1 HT_.out ?_
         refine pu_ 2 19 z76_2 HT_.out ?_
         refine tk_ 1 18 z76_3 HT_.out HW_.out hHeld ?_
         refine tk_ 3 20 z76_4 HT_.out HW_.out hHeld ?_
         refine pu_ 4 21 z76_5 HT_.out ?_
         refine one_ (i := 5) (N := some 22) z76_6 rfl rfl (one_of HT_.out (by kernel_rfl)) (by decide) (fun K hK => ?_)
         refine goes_ Try.func92 (by kernel_rfl) rfl #[.int .i64 ((rd_T89 l0_2 x3_1).f0), .int .i64 0, .int .i64 (wrap64 (a0_0 - 1))] (by rfl) rfl rfl na_ ?_
         with_reducible refine (spec_l1In.calls ((rd_T89 l0_2 x3_1).f0) 0 (wrap64 (a0_0 - 1)) true _ A5.out).mono ?_
         rintro e w' ⟨rfl, ⟨nd, rfl⟩⟩
         refine ⟨_, rfl, ?_⟩
         refine hK.out _ _ ⟨(bC76 BK479.out 0).trans rfl, (bC76 BK479.out 1).trans rfl, (bC76 BK479.out 2).trans rfl, (bC76 BK479.out 3).trans rfl, (bC76 BK479.out 4).trans rfl, (bC76 BK475.out 0).trans rfl, (bC76 BK475.out 1).trans rfl, (bC76 BK475.out 2).trans rfl⟩ (fun hHeld => ?_)
         clear hK K
         refine norm_ (a' := ?_) ?_ ?_
         rotate_left
         ·show Act.put _ (some 22) _ = _
          simp only [Act.put, List.setIfInBounds_toArray, List.set_cons_zero, List.set_cons_succ, i64_w, i32_w]
          rfl
         refine pu_ 6 23 z76_7 HT_.out ?_
         refine pu_ 7 24 z76_8 HT_.out ?_
         refine pu_ 8 25 z76_9 HT_.out ?_
         refine pu_ 10 27 z76_10 HT_.out ?_
         refine tk_ 9 26 z76_11 HT_.out HW_.out hHeld ?_
         refine tk_ 11 28 z76_12 HT_.out HW_.out hHeld ?_
         refine pu_ 12 29 z76_13 HT_.out ?_
         refine one_ (i := 13) (N := some 30) z76_14 rfl rfl (one_of HT_.out (by kernel_rfl)) (by decide) (fun K hK => ?_)
         refine goes_ Try.func92 (by kernel_rfl) rfl #[.int .i64 ((rd_T89 l0_2 x3_1).f1), .int .i64 0, .int .i64 (wrap64 (a0_0 - 1))] (by rfl) rfl rfl na_ ?_
         with_reducible refine (spec_l1In.calls ((rd_T89 l0_2 x3_1).f1) 0 (wrap64 (a0_0 - 1)) true _ A7.out).mono ?_
         rintro e w' ⟨rfl, ⟨nd, rfl⟩⟩
         refine ⟨_, rfl, ?_⟩
         refine hK.out _ _ ⟨(bC76 BK479.out 0).trans rfl, (bC76 BK479.out 1).trans rfl, (bC76 BK479.out 2).trans rfl, (bC76 BK479.out 3).trans rfl, (bC76 BK479.out 4).trans rfl, (bC76 BK475.out 0).trans rfl, (bC76 BK475.out 1).trans rfl, (bC76 BK475.out 2).trans rfl⟩ (fun hHeld => ?_)
         clear hK K
         refine norm_ (a' := ?_) ?_ ?_
         rotate_left
         ·show Act.put _ (some 30) _ = _
          simp only [Act.put, List.setIfInBounds_toArray, List.set_cons_zero, List.set_cons_succ, i64_w, i32_w]
          rfl
         refine pu_ 14 31 z76_15 HT_.out ?_
         refine pu_ 15 32 z76_16 HT_.out ?_
         refine pu_ 16 33 z76_17 HT_.out ?_
         refine pu_ 17 34 z76_18 HT_.out ?_
         refine pu_ 19 36 z76_19 HT_.out ?_
         refine tk_ 18 35 z76_20 HT_.out HW_.out hHeld ?_
         refine tk_ 20 37 z76_21 HT_.out HW_.out hHeld ?_
         refine pu_ 21 38 z76_22 HT_.out ?_
         refine pu_ 22 39 z76_23 HT_.out ?_
         refine pu_ 23 40 z76_24 HT_.out ?_
         refine un_ 24 41 z76_25 HT_.out ?_
         refine un_ 25 42 z76_26 HT_.out ?_
         refine un_ 26 43 z76_27 HT_.out ?_
         refine un_ 27 44 z76_28 HT_.out ?_
         refine pu_ 28 45 z76_29 HT_.out ?_
         refine pu_ 29 46 z76_30 HT_.out ?_
         refine un_ 30 47 z76_31 HT_.out ?_
         refine un_ 31 48 z76_32 HT_.out ?_
         refine un_ 32 49 z76_33 HT_.out ?_
         refine un_ 33 50 z76_34 HT_.out ?_
         refine un_ 34 51 z76_35 HT_.out ?_
         refine un_ 35 52 z76_36 HT_.out ?_
         refine pu_ 36 53 z76_37 HT_.out ?_
         refine pu_ 37 54 z76_38 HT_.out ?_
         refine un_ 38 55 z76_39 HT_.out ?_
         refine un_ 39 56 z76_40 HT_.out ?_
         refine un_ 40 57 z76_41 HT_.out ?_
         refine un_ 41 58 z76_42 HT_.out ?_
         refine pu_ 42 59 z76_43 HT_.out ?_
         refine pu_ 43 60 z76_44 HT_.out ?_
         refine un_ 44 61 z76_45 HT_.out ?_
         refine un_ 45 62 z76_46 HT_.out ?_
         refine un_ 46 63 z76_47 HT_.out ?_
         refine un_ 47 64 z76_48 HT_.out ?_
         refine un_ 48 65 z76_49 HT_.out ?_
         refine un_ 49 66 z76_50 HT_.out ?_
         refine un_ 50 67 z76_51 HT_.out ?_
         refine un_ 51 68 z76_52 HT_.out ?_
         refine un_ 52 69 z76_53 HT_.out ?_
         refine un_ 53 70 z76_54 HT_.out ?_
         refine un_ 54 71 z76_55 HT_.out ?_
         refine un_ 55 72 z76_56 HT_.out ?_
         refine un_ 56 73 z76_57 HT_.out ?_
         refine un_ 57 74 z76_58 HT_.out ?_
         refine pu_ 58 75 z76_59 HT_.out ?_
         refine pu_ 59 76 z76_60 HT_.out ?_
         refine un_ 60 77 z76_61 HT_.out ?_
         refine un_ 61 78 z76_62 HT_.out ?_
         refine un_ 62 79 z76_63 HT_.out ?_
         refine un_ 63 80 z76_64 HT_.out ?_
         refine pu_ 64 81 z76_65 HT_.out ?_
         refine done_ (done_of HT_.out (by kernel_rfl)) ?_
         try go_wp2
         go_ret
         exact ⟨by first | rfl | (simp [errW_none, errW_some] <;> rfl) | (simp [*, errW_none, errW_some] <;> rfl), by repeat (first | (with_reducible first | exact HB.out | apply below_alloc | apply eN76 | apply eD76 | refine bS76 ?_ GE475.out | refine bS76 ?_ GE479.out) | exact HB.out)⟩
        ·rw [if_neg c9] at H
         have c9b0 : (((rd_T89 l0_2 x3_1).f0) == ((rd_T89 l0_2 x3_1).f1)) = false := beq_eq_false_iff_ne.mpr c9
         have c9b1 : (((rd_T89 l0_2 x3_1).f0) != ((rd_T89 l0_2 x3_1).f1)) = true := bne_iff_ne.mpr c9
         replace H := Option.bind_eq_some_iff.mp H
         obtain ⟨t482, A160, H⟩ := H
         try dsimp only at H
         have A16 := Aside0.mk A160
         clear A160
         by_cases c17 : t482 = true
         ·subst c17
          have H1 : ((spec_l1In.f ((rd_T89 l0_2 x3_1).f3) ((rd_T89 l0_2 x3_1).f2) 199).bind fun t483 => (if t483 = true then ((spec_l1In.f ((rd_T89 l0_2 x3_1).f4) 0 5).bind fun t484 => (if t484 = true then (if x3_1 > 0 then (if 0 ≤ (wrap64 (x3_1 - 1)) then (if (wrap64 (x3_1 - 1)) < (l0_2.length : Int) then (if ((rd_T89 l0_2 x3_1).f2) < ((rd_T89 l0_2 (wrap64 (x3_1 - 1))).f2) then (some false) else ((spec_l6Goes.f k1 a0_0 a0_1 l0_2 x3_1).bind fun t486 => (if t486 = true then (spec_l6Ok.l0 k1 (wrap64 (x3_1 + 1)) a0_0 a0_1 l0_2) else (some false)))) else (none)) else (none)) else ((spec_l6Goes.f k1 a0_0 a0_1 l0_2 x3_1).bind fun t487 => (if t487 = true then (spec_l6Ok.l0 k1 (wrap64 (x3_1 + 1)) a0_0 a0_1 l0_2) else (some false)))) else (some false))) else (some false))) = some r := by rw [if_pos rfl] at H; exact H
          clear H
          have H := H1
          clear H1
          replace H := Option.bind_eq_some_iff.mp H
          obtain ⟨t483, A180, H⟩ := H
          try dsimp only at H
          have A18 := Aside0.mk A180
          clear A180
          by_cases c19 : t483 = true
          ·subst c19
           have H1 : ((spec_l1In.f ((rd_T89 l0_2 x3_1).f4) 0 5).bind fun t484 => (if t484 = true then (if x3_1 > 0 then (if 0 ≤ (wrap64 (x3_1 - 1)) then (if (wrap64 (x3_1 - 1)) < (l0_2.length : Int) then (if ((rd_T89 l0_2 x3_1).f2) < ((rd_T89 l0_2 (wrap64 (x3_1 - 1))).f2) then (some false) else ((spec_l6Goes.f k1 a0_0 a0_1 l0_2 x3_1).bind fun t486 => (if t486 = true then (spec_l6Ok.l0 k1 (wrap64 (x3_1 + 1)) a0_0 a0_1 l0_2) else (some false)))) else (none)) else (none)) else ((spec_l6Goes.f k1 a0_0 a0_1 l0_2 x3_1).bind fun t487 => (if t487 = true then (spec_l6Ok.l0 k1 (wrap64 (x3_1 + 1)) a0_0 a0_1 l0_2) else (some false)))) else (some false))) = some r := by rw [if_pos rfl] at H; exact H
           clear H
           have H := H1
           clear H1
           replace H := Option.bind_eq_some_iff.mp H
           obtain ⟨t484, A200, H⟩ := H
           try dsimp only at H
           have A20 := Aside0.mk A200
           clear A200
           by_cases c21 : t484 = true
           ·subst c21
            have H1 : (if x3_1 > 0 then (if 0 ≤ (wrap64 (x3_1 - 1)) then (if (wrap64 (x3_1 - 1)) < (l0_2.length : Int) then (if ((rd_T89 l0_2 x3_1).f2) < ((rd_T89 l0_2 (wrap64 (x3_1 - 1))).f2) then (some false) else ((spec_l6Goes.f k1 a0_0 a0_1 l0_2 x3_1).bind fun t486 => (if t486 = true then (spec_l6Ok.l0 k1 (wrap64 (x3_1 + 1)) a0_0 a0_1 l0_2) else (some false)))) else (none)) else (none)) else ((spec_l6Goes.f k1 a0_0 a0_1 l0_2 x3_1).bind fun t487 => (if t487 = true then (spec_l6Ok.l0 k1 (wrap64 (x3_1 + 1)) a0_0 a0_1 l0_2) else (some false)))) = some r := by rw [if_pos rfl] at H; exact H
            clear H
            have H := H1
            clear H1
            by_cases c22 : x3_1 > 0
            ·rw [if_pos c22] at H
             have c22b0 : decide (0 < x3_1) = true := decide_eq_true c22
             clear c22
             obtain ⟨ji23, hji23⟩ : ∃ j_ : Int, (wrap64 (x3_1 - 1)) = j_ := ⟨_, rfl⟩
             replace H : (if 0 ≤ (ji23) then (if (ji23) < (l0_2.length : Int) then (if ((rd_T89 l0_2 x3_1).f2) < ((rd_T89 l0_2 (ji23)).f2) then (some false) else ((spec_l6Goes.f k1 a0_0 a0_1 l0_2 x3_1).bind fun t486 => (if t486 = true then (spec_l6Ok.l0 k1 (wrap64 (x3_1 + 1)) a0_0 a0_1 l0_2) else (some false)))) else (none)) else (none)) = some r := by first | (rw [hji23] at H; exact H) | (simp only [hji23] at H ⊢; exact H)
             (try rw [hji23] at A5)
             (try rw [hji23] at A7)
             (try rw [hji23] at A16)
             (try rw [hji23] at A18)
             (try rw [hji23] at A20)
             have hji23w : (IntKind.i64.wrap (x3_1 - 1)) = ji23 := (i64_w _).trans hji23
             by_cases c24 : 0 ≤ (ji23)
             ·rw [if_pos c24] at H
              have c24b0 : decide (0 ≤ (ji23)) = true := decide_eq_true c24
              clear c24
              by_cases c25 : (ji23) < (l0_2.length : Int)
              ·rw [if_pos c25] at H
               have c25b0 : decide ((ji23) < (l0_2.length : Int)) = true := decide_eq_true c25
               clear c25
               by_cases c26 : ((rd_T89 l0_2 x3_1).f2) < ((rd_T89 l0_2 (ji23)).f2)
               ·rw [if_pos c26] at H
                have c26b0 : decide (((rd_T89 l0_2 x3_1).f2) < ((rd_T89 l0_2 (ji23)).f2)) = true := decide_eq_true c26
                clear c26
                obtain rfl := Option.some.inj H
                have hcz27_0 : wr.cell? ⟨gb475, 0, none⟩ = some (.int .i64 a0_0) := (bC76 BK475.out 0).trans rfl
                have hcz27_1 : wr.cell? ⟨gb475, 1, none⟩ = some (.int .i64 a0_1) := (bC76 BK475.out 1).trans rfl
                have hcz27_2 : wr.cell? ⟨gb475, 2, none⟩ = some (.slice A0_2 l0_2.length c0_2) := (bC76 BK475.out 2).trans rfl
                have hfz27_0 := blk_frozen BK475.out 0
                have hfz27_1 := blk_frozen BK475.out 1
                have hfz27_2 := blk_frozen BK475.out 2
                have p478 : 0 ≤ (x3_1 : Int) := of_decide_eq_true nx_
                have q478 : x3_1 < (l0_2.length : Int) := of_decide_eq_true nx_
                obtain ⟨ad478, e478, hx478_0, hx478_1, hx478_2, hx478_3, hx478_4⟩ := at_T89 HR0_2.out x3_1 p478 q478
                cases e478
                replace hx478_0 := (HB.out.cell (World.block_lt_of_cell? w _ hx478_0)).trans hx478_0
                replace hx478_1 := (HB.out.cell (World.block_lt_of_cell? w _ hx478_1)).trans hx478_1
                replace hx478_2 := (HB.out.cell (World.block_lt_of_cell? w _ hx478_2)).trans hx478_2
                replace hx478_3 := (HB.out.cell (World.block_lt_of_cell? w _ hx478_3)).trans hx478_3
                replace hx478_4 := (HB.out.cell (World.block_lt_of_cell? w _ hx478_4)).trans hx478_4
                replace p478 := eq_true p478
                replace q478 := eq_true q478
                try go_wp2_with (first | ((with_reducible refine gate_dst (N := 4) rfl ?_); (try (refine gate_guard (by rfl) ?_; dsimp only)); refine box_event ?hg (N := 4) ?hd (cs := #[.int .i64 0, .int .i64 0, .int .i64 0, .int .i64 0, .int .i64 0]) (t := 89) ?hr ?_; (case hd => rfl); (case hg => rfl); (case hr => first | (go_simp; done) | (go_simp; rfl)); intro gb479 hg w28 hbox hb; have n0_ := Aside0.mk (blk_below (g := gb475) (o := .cells #[.int .i64 a0_0, .int .i64 a0_1, .slice (some ad478) l0_2.length c0_2] 54 (0, 0)) (nb_ BK475.out) hb); have n1_ := Aside0.mk (below_step (ne_ HB.out) hb); have n2_ := Aside0.mk (hbox); have n3_ := Aside0.mk ((by rw [hg]; exact (below_size (ne_ HB.out)) : w.heap.size ≤ gb479)); have n4_ := Aside0.mk ((by rw [hg]; exact (below_size (ne_ HB.out)) : w.heap.size ≤ gb479)); have n5_ := Aside0.mk ((by rw [hg]; exact Nat.ne_of_lt (blk_lt (g := gb475) (o := .cells #[.int .i64 a0_0, .int .i64 a0_1, .slice (some ad478) l0_2.length c0_2] 54 (0, 0)) (nb_ BK475.out)) : gb475 ≠ gb479)); have n6_ := Aside0.mk ((by rw [hg]; exact Nat.ne_of_gt (blk_lt (g := gb475) (o := .cells #[.int .i64 a0_0, .int .i64 a0_1, .slice (some ad478) l0_2.length c0_2] 54 (0, 0)) (nb_ BK475.out)) : gb479 ≠ gb475)); clear BK475; clear HB; have BK475 := n0_; have HB := n1_; have BK479 := n2_; have GW479 := n3_; have GE479 := n4_; have NB475_479 := n5_; have NB479_475 := n6_; clear n0_ n1_ n2_ n3_ n4_ n5_ n6_; clear hb hbox hg; have hnb29 := NB479_475.out; have hnc29 := NB475_479.out; have hcz30_0 : w28.cell? ⟨gb479, 0, none⟩ = some (.int .i64 0) := (bC76 BK479.out 0).trans rfl; have hcz30_1 : w28.cell? ⟨gb479, 1, none⟩ = some (.int .i64 0) := (bC76 BK479.out 1).trans rfl; have hcz30_2 : w28.cell? ⟨gb479, 2, none⟩ = some (.int .i64 0) := (bC76 BK479.out 2).trans rfl; have hcz30_3 : w28.cell? ⟨gb479, 3, none⟩ = some (.int .i64 0) := (bC76 BK479.out 3).trans rfl; have hcz30_4 : w28.cell? ⟨gb479, 4, none⟩ = some (.int .i64 0) := (bC76 BK479.out 4).trans rfl; have hfz30_0 := blk_frozen BK479.out 0; have hfz30_1 := blk_frozen BK479.out 1; have hfz30_2 := blk_frozen BK479.out 2; have hfz30_3 := blk_frozen BK479.out 3; have hfz30_4 := blk_frozen BK479.out 4))
                have n0_ : Aside0 ((((((w28.setCell ⟨gb479, 0, none⟩ (.int .i64 ((rd_T89 l0_2 x3_1).f0))).setCell ⟨gb479, 1, none⟩ (.int .i64 ((rd_T89 l0_2 x3_1).f1))).setCell ⟨gb479, 2, none⟩ (.int .i64 ((rd_T89 l0_2 x3_1).f2))).setCell ⟨gb479, 3, none⟩ (.int .i64 ((rd_T89 l0_2 x3_1).f3))).setCell ⟨gb479, 4, none⟩ (.int .i64 ((rd_T89 l0_2 x3_1).f4))).heap[gb475]? = some (.cells #[.int .i64 a0_0, .int .i64 a0_1, .slice (some ad478) l0_2.length c0_2] 54 (0, 0))) := ⟨by (with_reducible repeat (first | refine bN76 ?_ _ | refine bD76 ?_ | refine bA76 ?_ _)); refine blk_far ?_ NB475_479.out _; (with_reducible repeat (first | refine bN76 ?_ _ | refine bD76 ?_ | refine bA76 ?_ _)); refine blk_far ?_ NB475_479.out _; (with_reducible repeat (first | refine bN76 ?_ _ | refine bD76 ?_ | refine bA76 ?_ _)); refine blk_far ?_ NB475_479.out _; (with_reducible repeat (first | refine bN76 ?_ _ | refine bD76 ?_ | refine bA76 ?_ _)); refine blk_far ?_ NB475_479.out _; (with_reducible repeat (first | refine bN76 ?_ _ | refine bD76 ?_ | refine bA76 ?_ _)); refine blk_far ?_ NB475_479.out _; (with_reducible repeat (first | refine bN76 ?_ _ | refine bD76 ?_ | refine bA76 ?_ _)); exact BK475.out⟩
                have n1_ : Aside0 ((((((w28.setCell ⟨gb479, 0, none⟩ (.int .i64 ((rd_T89 l0_2 x3_1).f0))).setCell ⟨gb479, 1, none⟩ (.int .i64 ((rd_T89 l0_2 x3_1).f1))).setCell ⟨gb479, 2, none⟩ (.int .i64 ((rd_T89 l0_2 x3_1).f2))).setCell ⟨gb479, 3, none⟩ (.int .i64 ((rd_T89 l0_2 x3_1).f3))).setCell ⟨gb479, 4, none⟩ (.int .i64 ((rd_T89 l0_2 x3_1).f4))).heap[gb479]? = some (.cells #[.int .i64 ((rd_T89 l0_2 x3_1).f0), .int .i64 ((rd_T89 l0_2 x3_1).f1), .int .i64 ((rd_T89 l0_2 x3_1).f2), .int .i64 ((rd_T89 l0_2 x3_1).f3), .int .i64 ((rd_T89 l0_2 x3_1).f4)] 89 (0, 0))) := ⟨by (with_reducible repeat (first | refine bN76 ?_ _ | refine bD76 ?_ | refine bA76 ?_ _)); refine blk_put (cs := #[.int .i64 ((rd_T89 l0_2 x3_1).f0), .int .i64 ((rd_T89 l0_2 x3_1).f1), .int .i64 ((rd_T89 l0_2 x3_1).f2), .int .i64 ((rd_T89 l0_2 x3_1).f3), .int .i64 0]) ?_ 4 _ rfl; (with_reducible repeat (first | refine bN76 ?_ _ | refine bD76 ?_ | refine bA76 ?_ _)); refine blk_put (cs := #[.int .i64 ((rd_T89 l0_2 x3_1).f0), .int .i64 ((rd_T89 l0_2 x3_1).f1), .int .i64 ((rd_T89 l0_2 x3_1).f2), .int .i64 0, .int .i64 0]) ?_ 3 _ rfl; (with_reducible repeat (first | refine bN76 ?_ _ | refine bD76 ?_ | refine bA76 ?_ _)); refine blk_put (cs := #[.int .i64 ((rd_T89 l0_2 x3_1).f0), .int .i64 ((rd_T89 l0_2 x3_1).f1), .int .i64 0, .int .i64 0, .int .i64 0]) ?_ 2 _ rfl; (with_reducible repeat (first | refine bN76 ?_ _ | refine bD76 ?_ | refine bA76 ?_ _)); refine blk_put (cs := #[.int .i64 ((rd_T89 l0_2 x3_1).f0), .int .i64 0, .int .i64 0, .int .i64 0, .int .i64 0]) ?_ 1 _ rfl; (with_reducible repeat (first | refine bN76 ?_ _ | refine bD76 ?_ | refine bA76 ?_ _)); refine blk_put (cs := #[.int .i64 0, .int .i64 0, .int .i64 0, .int .i64 0, .int .i64 0]) ?_ 0 _ rfl; (with_reducible repeat (first | refine bN76 ?_ _ | refine bD76 ?_ | refine bA76 ?_ _)); exact BK479.out⟩
                have n2_ : Aside0 (Below w.heap.size w (((((w28.setCell ⟨gb479, 0, none⟩ (.int .i64 ((rd_T89 l0_2 x3_1).f0))).setCell ⟨gb479, 1, none⟩ (.int .i64 ((rd_T89 l0_2 x3_1).f1))).setCell ⟨gb479, 2, none⟩ (.int .i64 ((rd_T89 l0_2 x3_1).f2))).setCell ⟨gb479, 3, none⟩ (.int .i64 ((rd_T89 l0_2 x3_1).f3))).setCell ⟨gb479, 4, none⟩ (.int .i64 ((rd_T89 l0_2 x3_1).f4)))) := ⟨by repeat (first | (with_reducible first | exact HB.out | apply below_alloc | apply eN76 | apply eD76 | refine bS76 ?_ GE475.out | refine bS76 ?_ GE479.out) | exact HB.out)⟩
                (try clear BK475)
                (try clear BK479)
                (try clear HB)
                generalize (((((w28.setCell ⟨gb479, 0, none⟩ (.int .i64 ((rd_T89 l0_2 x3_1).f0))).setCell ⟨gb479, 1, none⟩ (.int .i64 ((rd_T89 l0_2 x3_1).f1))).setCell ⟨gb479, 2, none⟩ (.int .i64 ((rd_T89 l0_2 x3_1).f2))).setCell ⟨gb479, 3, none⟩ (.int .i64 ((rd_T89 l0_2 x3_1).f3))).setCell ⟨gb479, 4, none⟩ (.int .i64 ((rd_T89 l0_2 x3_1).f4))) = w31 at n0_ n1_ n2_ ⊢
                have BK475 := n0_
                have BK479 := n1_
                have HB := n2_
                clear n0_ n1_ n2_
                replace BK475 := Aside0.mk (bD76 BK475.out)
                replace BK479 := Aside0.mk (bD76 BK479.out)
                replace HB := Aside0.mk (eD76 HB.out)
                have p485 : 0 ≤ ((ji23) : Int) := of_decide_eq_true nx_
                have q485 : (ji23) < (l0_2.length : Int) := of_decide_eq_true nx_
                obtain ⟨ad485, e485, hx485_0, hx485_1, hx485_2, hx485_3, hx485_4⟩ := at_T89 HR0_2.out (ji23) p485 q485
                have hw485_4 := hx485_4
                have hw485_3 := hx485_3
                have hw485_2 := hx485_2
                have hw485_1 := hx485_1
                have hw485_0 := hx485_0
                obtain rfl : ad478 = ad485 := (by injection e485)
                replace hx485_0 := (HB.out.cell (World.block_lt_of_cell? w _ hx485_0)).trans hx485_0
                replace hx485_1 := (HB.out.cell (World.block_lt_of_cell? w _ hx485_1)).trans hx485_1
                replace hx485_2 := (HB.out.cell (World.block_lt_of_cell? w _ hx485_2)).trans hx485_2
                replace hx485_3 := (HB.out.cell (World.block_lt_of_cell? w _ hx485_3)).trans hx485_3
                replace hx485_4 := (HB.out.cell (World.block_lt_of_cell? w _ hx485_4)).trans hx485_4
                replace p485 := eq_true p485
                replace q485 := eq_true q485
                refine start_ (n := 65) (S := fun w' => w'.cell? ⟨gb479, 0, none⟩ = some (.int .i64 ((rd_T89 l0_2 x3_1).f0)) ∧ w'.cell? ⟨gb479, 1, none⟩ = some (.int .i64 ((rd_T89 l0_2 x3_1).f1)) ∧ w'.cell? ⟨gb479, 2, none⟩ = some (.int .i64 ((rd_T89 l0_2 x3_1).f2)) ∧ w'.cell? ⟨gb479, 3, none⟩ = some (.int .i64 ((rd_T89 l0_2 x3_1).f3)) ∧ w'.cell? ⟨gb479, 4, none⟩ = some (.int .i64 ((rd_T89 l0_2 x3_1).f4)) ∧ w'.cell? ⟨gb475, 0, none⟩ = some (.int .i64 a0_0) ∧ w'.cell? ⟨gb475, 1, none⟩ = some (.int .i64 a0_1) ∧ w'.cell? ⟨gb475, 2, none⟩ = some (.slice (some ad478) l0_2.length c0_2) ∧ w'.cell? (ad478.add (((ji23)).toNat * 5)) = some (.int .i64 ((rd_T89 l0_2 (ji23)).f0)) ∧ w'.cell? ⟨(ad478.add (((ji23)).toNat * 5)).block, (ad478.add (((ji23)).toNat * 5)).off + 1, none⟩ = some (.int .i64 ((rd_T89 l0_2 (ji23)).f1)) ∧ w'.cell? ⟨(ad478.add (((ji23)).toNat * 5)).block, (ad478.add (((ji23)).toNat * 5)).off + 2, none⟩ = some (.int .i64 ((rd_T89 l0_2 (ji23)).f2)) ∧ w'.cell? ⟨(ad478.add (((ji23)).toNat * 5)).block, (ad478.add (((ji23)).toNat * 5)).off + 3, none⟩ = some (.int .i64 ((rd_T89 l0_2 (ji23)).f3)) ∧ w'.cell? ⟨(ad478.add (((ji23)).toNat * 5)).block, (ad478.add (((ji23)).toNat * 5)).off + 4, none⟩ = some (.int .i64 ((rd_T89 l0_2 (ji23)).f4))) (ds := []) z76_0 (by kernel_rfl) rfl rfl ⟨(bC76 BK479.out 0).trans rfl, (bC76 BK479.out 1).trans rfl, (bC76 BK479.out 2).trans rfl, (bC76 BK479.out 3).trans rfl, (bC76 BK479.out 4).trans rfl, (bC76 BK475.out 0).trans rfl, (bC76 BK475.out 1).trans rfl, (bC76 BK475.out 2).trans rfl, ((HB.out.cell (World.block_lt_of_cell? w _ hw485_0)).trans hw485_0), ((HB.out.cell (World.block_lt_of_cell? w _ hw485_1)).trans hw485_1), ((HB.out.cell (World.block_lt_of_cell? w _ hw485_2)).trans hw485_2), ((HB.out.cell (World.block_lt_of_cell? w _ hw485_3)).trans hw485_3), ((HB.out.cell (World.block_lt_of_cell? w _ hw485_4)).trans hw485_4)⟩ (fun hHeld => ?_); refine with_tabW spec_l6Ok.tab5 spec_l6Ok.bits5 (fun HT_ HW_ => ?_)
                generalize w31.drew = w32 at BK475 BK479 HB hx485_0 hx485_1 hx485_2 hx485_3 hx485_4 hHeld ⊢
                refine pu_ 0 17 z76_1 HT_.out ?_
                refine pu_ 2 19 z76_2 HT_.out ?_
                refine tk_ 1 18 z76_3 HT_.out HW_.out hHeld ?_
                refine tk_ 3 20 z76_4 HT_.out HW_.out hHeld ?_
                refine pu_ 4 21 z76_5 HT_.out ?_
                refine one_ (i := 5) (N := some 22) z76_6 rfl rfl (one_of HT_.out (by kernel_rfl)) (by decide) (fun K hK => ?_)
                refine goes_ Try.func92 (by kernel_rfl) rfl #[.int .i64 ((rd_T89 l0_2 x3_1).f0), .int .i64 0, .int .i64 (wrap64 (a0_0 - 1))] (by rfl) rfl rfl na_ ?_
                with_reducible refine (spec_l1In.calls ((rd_T89 l0_2 x3_1).f0) 0 (wrap64 (a0_0 - 1)) true _ A5.out).mono ?_
                rintro e w' ⟨rfl, ⟨nd, rfl⟩⟩
                refine ⟨_, rfl, ?_⟩
                refine hK.out _ _ ⟨(bC76 BK479.out 0).trans rfl, (bC76 BK479.out 1).trans rfl, (bC76 BK479.out 2).trans rfl, (bC76 BK479.out 3).trans rfl, (bC76 BK479.out 4).trans rfl, (bC76 BK475.out 0).trans rfl, (bC76 BK475.out 1).trans rfl, (bC76 BK475.out 2).trans rfl, ((HB.out.cell (World.block_lt_of_cell? w _ hw485_0)).trans hw485_0), ((HB.out.cell (World.block_lt_of_cell? w _ hw485_1)).trans hw485_1), ((HB.out.cell (World.block_lt_of_cell? w _ hw485_2)).trans hw485_2), ((HB.out.cell (World.block_lt_of_cell? w _ hw485_3)).trans hw485_3), ((HB.out.cell (World.block_lt_of_cell? w _ hw485_4)).trans hw485_4)⟩ (fun hHeld => ?_)
                clear hK K
                refine norm_ (a' := ?_) ?_ ?_
                rotate_left
                ·show Act.put _ (some 22) _ = _
                 simp only [Act.put, List.setIfInBounds_toArray, List.set_cons_zero, List.set_cons_succ, i64_w, i32_w]
                 rfl
                refine pu_ 6 23 z76_7 HT_.out ?_
                refine pu_ 7 24 z76_8 HT_.out ?_
                refine pu_ 8 25 z76_9 HT_.out ?_
                refine pu_ 10 27 z76_10 HT_.out ?_
                refine tk_ 9 26 z76_11 HT_.out HW_.out hHeld ?_
                refine tk_ 11 28 z76_12 HT_.out HW_.out hHeld ?_
                refine pu_ 12 29 z76_13 HT_.out ?_
                refine one_ (i := 13) (N := some 30) z76_14 rfl rfl (one_of HT_.out (by kernel_rfl)) (by decide) (fun K hK => ?_)
                refine goes_ Try.func92 (by kernel_rfl) rfl #[.int .i64 ((rd_T89 l0_2 x3_1).f1), .int .i64 0, .int .i64 (wrap64 (a0_0 - 1))] (by rfl) rfl rfl na_ ?_
                with_reducible refine (spec_l1In.calls ((rd_T89 l0_2 x3_1).f1) 0 (wrap64 (a0_0 - 1)) true _ A7.out).mono ?_
                rintro e w' ⟨rfl, ⟨nd, rfl⟩⟩
                refine ⟨_, rfl, ?_⟩
                refine hK.out _ _ ⟨(bC76 BK479.out 0).trans rfl, (bC76 BK479.out 1).trans rfl, (bC76 BK479.out 2).trans rfl, (bC76 BK479.out 3).trans rfl, (bC76 BK479.out 4).trans rfl, (bC76 BK475.out 0).trans rfl, (bC76 BK475.out 1).trans rfl, (bC76 BK475.out 2).trans rfl, ((HB.out.cell (World.block_lt_of_cell? w _ hw485_0)).trans hw485_0), ((HB.out.cell (World.block_lt_of_cell? w _ hw485_1)).trans hw485_1), ((HB.out.cell (World.block_lt_of_cell? w _ hw485_2)).trans hw485_2), ((HB.out.cell (World.block_lt_of_cell? w _ hw485_3)).trans hw485_3), ((HB.out.cell (World.block_lt_of_cell? w _ hw485_4)).trans hw485_4)⟩ (fun hHeld => ?_)
                clear hK K
                refine norm_ (a' := ?_) ?_ ?_
                rotate_left
                ·show Act.put _ (some 30) _ = _
                 simp only [Act.put, List.setIfInBounds_toArray, List.set_cons_zero, List.set_cons_succ, i64_w, i32_w]
                 rfl
                refine pu_ 14 31 z76_15 HT_.out ?_
                refine pu_ 15 32 z76_16 HT_.out ?_
                refine pu_ 16 33 z76_17 HT_.out ?_
                refine pu_ 17 34 z76_18 HT_.out ?_
                refine pu_ 19 36 z76_19 HT_.out ?_
                refine tk_ 18 35 z76_20 HT_.out HW_.out hHeld ?_
                refine tk_ 20 37 z76_21 HT_.out HW_.out hHeld ?_
                refine pu_ 21 38 z76_22 HT_.out ?_
                refine pu_ 22 39 z76_23 HT_.out ?_
                refine pu_ 23 40 z76_24 HT_.out ?_
                refine pu_ 24 41 z76_25 HT_.out ?_
                refine tk_ 25 42 z76_26 HT_.out HW_.out hHeld ?_
                refine one_ (i := 26) (N := some 43) z76_27 rfl rfl (one_of HT_.out (by kernel_rfl)) (by decide) (fun K hK => ?_)
                refine goes_ Try.func92 (by kernel_rfl) rfl #[.int .i64 ((rd_T89 l0_2 x3_1).f2), .int .i64 0, .int .i64 199] (by rfl) rfl rfl na_ ?_
                with_reducible refine (spec_l1In.calls ((rd_T89 l0_2 x3_1).f2) 0 199 true _ A16.out).mono ?_
                rintro e w' ⟨rfl, ⟨nd, rfl⟩⟩
                refine ⟨_, rfl, ?_⟩
                refine hK.out _ _ ⟨(bC76 BK479.out 0).trans rfl, (bC76 BK479.out 1).trans rfl, (bC76 BK479.out 2).trans rfl, (bC76 BK479.out 3).trans rfl, (bC76 BK479.out 4).trans rfl, (bC76 BK475.out 0).trans rfl, (bC76 BK475.out 1).trans rfl, (bC76 BK475.out 2).trans rfl, ((HB.out.cell (World.block_lt_of_cell? w _ hw485_0)).trans hw485_0), ((HB.out.cell (World.block_lt_of_cell? w _ hw485_1)).trans hw485_1), ((HB.out.cell (World.block_lt_of_cell? w _ hw485_2)).trans hw485_2), ((HB.out.cell (World.block_lt_of_cell? w _ hw485_3)).trans hw485_3), ((HB.out.cell (World.block_lt_of_cell? w _ hw485_4)).trans hw485_4)⟩ (fun hHeld => ?_)
                clear hK K
                refine norm_ (a' := ?_) ?_ ?_
                rotate_left
                ·show Act.put _ (some 43) _ = _
                 simp only [Act.put, List.setIfInBounds_toArray, List.set_cons_zero, List.set_cons_succ, i64_w, i32_w]
                 rfl
                refine pu_ 27 44 z76_28 HT_.out ?_
                refine pu_ 28 45 z76_29 HT_.out ?_
                refine pu_ 29 46 z76_30 HT_.out ?_
                refine pu_ 30 47 z76_31 HT_.out ?_
                refine pu_ 32 49 z76_66 HT_.out ?_
                refine tk_ 31 48 z76_33 HT_.out HW_.out hHeld ?_
                refine tk_ 33 50 z76_34 HT_.out HW_.out hHeld ?_
                refine one_ (i := 34) (N := some 51) z76_35 rfl rfl (one_of HT_.out (by kernel_rfl)) (by decide) (fun K hK => ?_)
                refine goes_ Try.func92 (by kernel_rfl) rfl #[.int .i64 ((rd_T89 l0_2 x3_1).f3), .int .i64 ((rd_T89 l0_2 x3_1).f2), .int .i64 199] (by rfl) rfl rfl na_ ?_
                with_reducible refine (spec_l1In.calls ((rd_T89 l0_2 x3_1).f3) ((rd_T89 l0_2 x3_1).f2) 199 true _ A18.out).mono ?_
                rintro e w' ⟨rfl, ⟨nd, rfl⟩⟩
                refine ⟨_, rfl, ?_⟩
                refine hK.out _ _ ⟨(bC76 BK479.out 0).trans rfl, (bC76 BK479.out 1).trans rfl, (bC76 BK479.out 2).trans rfl, (bC76 BK479.out 3).trans rfl, (bC76 BK479.out 4).trans rfl, (bC76 BK475.out 0).trans rfl, (bC76 BK475.out 1).trans rfl, (bC76 BK475.out 2).trans rfl, ((HB.out.cell (World.block_lt_of_cell? w _ hw485_0)).trans hw485_0), ((HB.out.cell (World.block_lt_of_cell? w _ hw485_1)).trans hw485_1), ((HB.out.cell (World.block_lt_of_cell? w _ hw485_2)).trans hw485_2), ((HB.out.cell (World.block_lt_of_cell? w _ hw485_3)).trans hw485_3), ((HB.out.cell (World.block_lt_of_cell? w _ hw485_4)).trans hw485_4)⟩ (fun hHeld => ?_)
                clear hK K
                refine norm_ (a' := ?_) ?_ ?_
                rotate_left
                ·show Act.put _ (some 51) _ = _
                 simp only [Act.put, List.setIfInBounds_toArray, List.set_cons_zero, List.set_cons_succ, i64_w, i32_w]
                 rfl
                refine pu_ 35 52 z76_36 HT_.out ?_
                refine pu_ 36 53 z76_37 HT_.out ?_
                refine pu_ 37 54 z76_38 HT_.out ?_
                refine pu_ 38 55 z76_39 HT_.out ?_
                refine tk_ 39 56 z76_40 HT_.out HW_.out hHeld ?_
                refine one_ (i := 40) (N := some 57) z76_41 rfl rfl (one_of HT_.out (by kernel_rfl)) (by decide) (fun K hK => ?_)
                refine goes_ Try.func92 (by kernel_rfl) rfl #[.int .i64 ((rd_T89 l0_2 x3_1).f4), .int .i64 0, .int .i64 5] (by rfl) rfl rfl na_ ?_
                with_reducible refine (spec_l1In.calls ((rd_T89 l0_2 x3_1).f4) 0 5 true _ A20.out).mono ?_
                rintro e w' ⟨rfl, ⟨nd, rfl⟩⟩
                refine ⟨_, rfl, ?_⟩
                refine hK.out _ _ ⟨(bC76 BK479.out 0).trans rfl, (bC76 BK479.out 1).trans rfl, (bC76 BK479.out 2).trans rfl, (bC76 BK479.out 3).trans rfl, (bC76 BK479.out 4).trans rfl, (bC76 BK475.out 0).trans rfl, (bC76 BK475.out 1).trans rfl, (bC76 BK475.out 2).trans rfl, ((HB.out.cell (World.block_lt_of_cell? w _ hw485_0)).trans hw485_0), ((HB.out.cell (World.block_lt_of_cell? w _ hw485_1)).trans hw485_1), ((HB.out.cell (World.block_lt_of_cell? w _ hw485_2)).trans hw485_2), ((HB.out.cell (World.block_lt_of_cell? w _ hw485_3)).trans hw485_3), ((HB.out.cell (World.block_lt_of_cell? w _ hw485_4)).trans hw485_4)⟩ (fun hHeld => ?_)
                clear hK K
                refine norm_ (a' := ?_) ?_ ?_
                rotate_left
                ·show Act.put _ (some 57) _ = _
                 simp only [Act.put, List.setIfInBounds_toArray, List.set_cons_zero, List.set_cons_succ, i64_w, i32_w]
                 rfl
                refine pu_ 41 58 z76_42 HT_.out ?_
                refine pu_ 42 59 z76_43 HT_.out ?_
                refine pu_ 43 60 z76_44 HT_.out ?_
                refine pu_ 44 61 z76_45 HT_.out ?_
                refine pu_ 45 62 z76_46 HT_.out ?_
                refine pu_ 46 63 z76_47 HT_.out ?_
                refine pu_ 47 64 z76_48 HT_.out ?_
                refine pu_ 49 66 z76_67 HT_.out ?_
                refine pu_ 51 68 z76_68 HT_.out ?_
                refine pu_ 52 69 z76_69 HT_.out ?_
                refine tk_ 48 65 z76_70 HT_.out HW_.out hHeld ?_
                refine tk_ 50 67 z76_53 HT_.out HW_.out hHeld ?_
                refine pu_ 53 70 z76_54 HT_.out ?_
                refine pu_ 54 71 z76_55 HT_.out ?_
                refine tk_ 55 72 z76_56 HT_.out HW_.out hHeld ?_
                refine pu_ 56 73 z76_57 HT_.out ?_
                refine pu_ 57 74 z76_58 HT_.out ?_
                refine pu_ 58 75 z76_59 HT_.out ?_
                refine pu_ 59 76 z76_60 HT_.out ?_
                refine un_ 60 77 z76_61 HT_.out ?_
                refine un_ 61 78 z76_62 HT_.out ?_
                refine un_ 62 79 z76_63 HT_.out ?_
                refine un_ 63 80 z76_64 HT_.out ?_
                refine pu_ 64 81 z76_65 HT_.out ?_
                refine done_ (done_of HT_.out (by kernel_rfl)) ?_
                try go_wp2
                go_ret
                exact ⟨by first | rfl | (simp [errW_none, errW_some] <;> rfl) | (simp only [← hji23]; first | rfl | (simp [errW_none, errW_some] <;> rfl)) | (simp [*, errW_none, errW_some] <;> rfl), by repeat (first | (with_reducible first | exact HB.out | apply below_alloc | apply eN76 | apply eD76 | refine bS76 ?_ GE475.out | refine bS76 ?_ GE479.out) | exact HB.out)⟩
               ·rw [if_neg c26] at H
                have c26b0 : decide (((rd_T89 l0_2 x3_1).f2) < ((rd_T89 l0_2 (ji23)).f2)) = false := decide_eq_false c26
                clear c26
                replace H := Option.bind_eq_some_iff.mp H
                obtain ⟨t486, A330, H⟩ := H
                replace H : (if t486 = true then (spec_l6Ok.l0 k1 (wrap64 (x3_1 + 1)) a0_0 a0_1 l0_2) else (some false)) = some r := H
                have A33 := Aside0.mk A330
                clear A330
                by_cases c34 : t486 = true
                ·subst c34
                 have H1 : (spec_l6Ok.l0 k1 (wrap64 (x3_1 + 1)) a0_0 a0_1 l0_2) = some r := by rw [if_pos rfl] at H; exact H
                 clear H
                 have H := H1
                 clear H1
                 have H' := Aside0.mk H
                 clear H
                 have hcz35_0 : wr.cell? ⟨gb475, 0, none⟩ = some (.int .i64 a0_0) := (bC76 BK475.out 0).trans rfl
                 have hcz35_1 : wr.cell? ⟨gb475, 1, none⟩ = some (.int .i64 a0_1) := (bC76 BK475.out 1).trans rfl
                 have hcz35_2 : wr.cell? ⟨gb475, 2, none⟩ = some (.slice A0_2 l0_2.length c0_2) := (bC76 BK475.out 2).trans rfl
                 have hfz35_0 := blk_frozen BK475.out 0
                 have hfz35_1 := blk_frozen BK475.out 1
                 have hfz35_2 := blk_frozen BK475.out 2
                 have p478 : 0 ≤ (x3_1 : Int) := of_decide_eq_true nx_
                 have q478 : x3_1 < (l0_2.length : Int) := of_decide_eq_true nx_
                 obtain ⟨ad478, e478, hx478_0, hx478_1, hx478_2, hx478_3, hx478_4⟩ := at_T89 HR0_2.out x3_1 p478 q478
                 cases e478
                 replace hx478_0 := (HB.out.cell (World.block_lt_of_cell? w _ hx478_0)).trans hx478_0
                 replace hx478_1 := (HB.out.cell (World.block_lt_of_cell? w _ hx478_1)).trans hx478_1
                 replace hx478_2 := (HB.out.cell (World.block_lt_of_cell? w _ hx478_2)).trans hx478_2
                 replace hx478_3 := (HB.out.cell (World.block_lt_of_cell? w _ hx478_3)).trans hx478_3
                 replace hx478_4 := (HB.out.cell (World.block_lt_of_cell? w _ hx478_4)).trans hx478_4
                 replace p478 := eq_true p478
                 replace q478 := eq_true q478
                 try go_wp2_with (first | ((with_reducible refine gate_dst (N := 4) rfl ?_); (try (refine gate_guard (by rfl) ?_; dsimp only)); refine box_event ?hg (N := 4) ?hd (cs := #[.int .i64 0, .int .i64 0, .int .i64 0, .int .i64 0, .int .i64 0]) (t := 89) ?hr ?_; (case hd => rfl); (case hg => rfl); (case hr => first | (go_simp; done) | (go_simp; rfl)); intro gb479 hg w36 hbox hb; have n0_ := Aside0.mk (blk_below (g := gb475) (o := .cells #[.int .i64 a0_0, .int .i64 a0_1, .slice (some ad478) l0_2.length c0_2] 54 (0, 0)) (nb_ BK475.out) hb); have n1_ := Aside0.mk (below_step (ne_ HB.out) hb); have n2_ := Aside0.mk (hbox); have n3_ := Aside0.mk ((by rw [hg]; exact (below_size (ne_ HB.out)) : w.heap.size ≤ gb479)); have n4_ := Aside0.mk ((by rw [hg]; exact (below_size (ne_ HB.out)) : w.heap.size ≤ gb479)); have n5_ := Aside0.mk ((by rw [hg]; exact Nat.ne_of_lt (blk_lt (g := gb475) (o := .cells #[.int .i64 a0_0, .int .i64 a0_1, .slice (some ad478) l0_2.length c0_2] 54 (0, 0)) (nb_ BK475.out)) : gb475 ≠ gb479)); have n6_ := Aside0.mk ((by rw [hg]; exact Nat.ne_of_gt (blk_lt (g := gb475) (o := .cells #[.int .i64 a0_0, .int .i64 a0_1, .slice (some ad478) l0_2.length c0_2] 54 (0, 0)) (nb_ BK475.out)) : gb479 ≠ gb475)); clear BK475; clear HB; have BK475 := n0_; have HB := n1_; have BK479 := n2_; have GW479 := n3_; have GE479 := n4_; have NB475_479 := n5_; have NB479_475 := n6_; clear n0_ n1_ n2_ n3_ n4_ n5_ n6_; clear hb hbox hg; have hnb37 := NB479_475.out; have hnc37 := NB475_479.out; have hcz38_0 : w36.cell? ⟨gb479, 0, none⟩ = some (.int .i64 0) := (bC76 BK479.out 0).trans rfl; have hcz38_1 : w36.cell? ⟨gb479, 1, none⟩ = some (.int .i64 0) := (bC76 BK479.out 1).trans rfl; have hcz38_2 : w36.cell? ⟨gb479, 2, none⟩ = some (.int .i64 0) := (bC76 BK479.out 2).trans rfl; have hcz38_3 : w36.cell? ⟨gb479, 3, none⟩ = some (.int .i64 0) := (bC76 BK479.out 3).trans rfl; have hcz38_4 : w36.cell? ⟨gb479, 4, none⟩ = some (.int .i64 0) := (bC76 BK479.out 4).trans rfl; have hfz38_0 := blk_frozen BK479.out 0; have hfz38_1 := blk_frozen BK479.out 1; have hfz38_2 := blk_frozen BK479.out 2; have hfz38_3 := blk_frozen BK479.out 3; have hfz38_4 := blk_frozen BK479.out 4))
                 have n0_ : Aside0 ((((((w36.setCell ⟨gb479, 0, none⟩ (.int .i64 ((rd_T89 l0_2 x3_1).f0))).setCell ⟨gb479, 1, none⟩ (.int .i64 ((rd_T89 l0_2 x3_1).f1))).setCell ⟨gb479, 2, none⟩ (.int .i64 ((rd_T89 l0_2 x3_1).f2))).setCell ⟨gb479, 3, none⟩ (.int .i64 ((rd_T89 l0_2 x3_1).f3))).setCell ⟨gb479, 4, none⟩ (.int .i64 ((rd_T89 l0_2 x3_1).f4))).heap[gb475]? = some (.cells #[.int .i64 a0_0, .int .i64 a0_1, .slice (some ad478) l0_2.length c0_2] 54 (0, 0))) := ⟨by (with_reducible repeat (first | refine bN76 ?_ _ | refine bD76 ?_ | refine bA76 ?_ _)); refine blk_far ?_ NB475_479.out _; (with_reducible repeat (first | refine bN76 ?_ _ | refine bD76 ?_ | refine bA76 ?_ _)); refine blk_far ?_ NB475_479.out _; (with_reducible repeat (first | refine bN76 ?_ _ | refine bD76 ?_ | refine bA76 ?_ _)); refine blk_far ?_ NB475_479.out _; (with_reducible repeat (first | refine bN76 ?_ _ | refine bD76 ?_ | refine bA76 ?_ _)); refine blk_far ?_ NB475_479.out _; (with_reducible repeat (first | refine bN76 ?_ _ | refine bD76 ?_ | refine bA76 ?_ _)); refine blk_far ?_ NB475_479.out _; (with_reducible repeat (first | refine bN76 ?_ _ | refine bD76 ?_ | refine bA76 ?_ _)); exact BK475.out⟩
                 have n1_ : Aside0 ((((((w36.setCell ⟨gb479, 0, none⟩ (.int .i64 ((rd_T89 l0_2 x3_1).f0))).setCell ⟨gb479, 1, none⟩ (.int .i64 ((rd_T89 l0_2 x3_1).f1))).setCell ⟨gb479, 2, none⟩ (.int .i64 ((rd_T89 l0_2 x3_1).f2))).setCell ⟨gb479, 3, none⟩ (.int .i64 ((rd_T89 l0_2 x3_1).f3))).setCell ⟨gb479, 4, none⟩ (.int .i64 ((rd_T89 l0_2 x3_1).f4))).heap[gb479]? = some (.cells #[.int .i64 ((rd_T89 l0_2 x3_1).f0), .int .i64 ((rd_T89 l0_2 x3_1).f1), .int .i64 ((rd_T89 l0_2 x3_1).f2), .int .i64 ((rd_T89 l0_2 x3_1).f3), .int .i64 ((rd_T89 l0_2 x3_1).f4)] 89 (0, 0))) := ⟨by (with_reducible repeat (first | refine bN76 ?_ _ | refine bD76 ?_ | refine bA76 ?_ _)); refine blk_put (cs := #[.int .i64 ((rd_T89 l0_2 x3_1).f0), .int .i64 ((rd_T89 l0_2 x3_1).f1), .int .i64 ((rd_T89 l0_2 x3_1).f2), .int .i64 ((rd_T89 l0_2 x3_1).f3), .int .i64 0]) ?_ 4 _ rfl; (with_reducible repeat (first | refine bN76 ?_ _ | refine bD76 ?_ | refine bA76 ?_ _)); refine blk_put (cs := #[.int .i64 ((rd_T89 l0_2 x3_1).f0), .int .i64 ((rd_T89 l0_2 x3_1).f1), .int .i64 ((rd_T89 l0_2 x3_1).f2), .int .i64 0, .int .i64 0]) ?_ 3 _ rfl; (with_reducible repeat (first | refine bN76 ?_ _ | refine bD76 ?_ | refine bA76 ?_ _)); refine blk_put (cs := #[.int .i64 ((rd_T89 l0_2 x3_1).f0), .int .i64 ((rd_T89 l0_2 x3_1).f1), .int .i64 0, .int .i64 0, .int .i64 0]) ?_ 2 _ rfl; (with_reducible repeat (first | refine bN76 ?_ _ | refine bD76 ?_ | refine bA76 ?_ _)); refine blk_put (cs := #[.int .i64 ((rd_T89 l0_2 x3_1).f0), .int .i64 0, .int .i64 0, .int .i64 0, .int .i64 0]) ?_ 1 _ rfl; (with_reducible repeat (first | refine bN76 ?_ _ | refine bD76 ?_ | refine bA76 ?_ _)); refine blk_put (cs := #[.int .i64 0, .int .i64 0, .int .i64 0, .int .i64 0, .int .i64 0]) ?_ 0 _ rfl; (with_reducible repeat (first | refine bN76 ?_ _ | refine bD76 ?_ | refine bA76 ?_ _)); exact BK479.out⟩
                 have n2_ : Aside0 (Below w.heap.size w (((((w36.setCell ⟨gb479, 0, none⟩ (.int .i64 ((rd_T89 l0_2 x3_1).f0))).setCell ⟨gb479, 1, none⟩ (.int .i64 ((rd_T89 l0_2 x3_1).f1))).setCell ⟨gb479, 2, none⟩ (.int .i64 ((rd_T89 l0_2 x3_1).f2))).setCell ⟨gb479, 3, none⟩ (.int .i64 ((rd_T89 l0_2 x3_1).f3))).setCell ⟨gb479, 4, none⟩ (.int .i64 ((rd_T89 l0_2 x3_1).f4)))) := ⟨by repeat (first | (with_reducible first | exact HB.out | apply below_alloc | apply eN76 | apply eD76 | refine bS76 ?_ GE475.out | refine bS76 ?_ GE479.out) | exact HB.out)⟩
                 (try clear BK475)
                 (try clear BK479)
                 (try clear HB)
                 generalize (((((w36.setCell ⟨gb479, 0, none⟩ (.int .i64 ((rd_T89 l0_2 x3_1).f0))).setCell ⟨gb479, 1, none⟩ (.int .i64 ((rd_T89 l0_2 x3_1).f1))).setCell ⟨gb479, 2, none⟩ (.int .i64 ((rd_T89 l0_2 x3_1).f2))).setCell ⟨gb479, 3, none⟩ (.int .i64 ((rd_T89 l0_2 x3_1).f3))).setCell ⟨gb479, 4, none⟩ (.int .i64 ((rd_T89 l0_2 x3_1).f4))) = w39 at n0_ n1_ n2_ ⊢
                 have BK475 := n0_
                 have BK479 := n1_
                 have HB := n2_
                 clear n0_ n1_ n2_
                 replace BK475 := Aside0.mk (bD76 BK475.out)
                 replace BK479 := Aside0.mk (bD76 BK479.out)
                 replace HB := Aside0.mk (eD76 HB.out)
                 have p485 : 0 ≤ ((ji23) : Int) := of_decide_eq_true nx_
                 have q485 : (ji23) < (l0_2.length : Int) := of_decide_eq_true nx_
                 obtain ⟨ad485, e485, hx485_0, hx485_1, hx485_2, hx485_3, hx485_4⟩ := at_T89 HR0_2.out (ji23) p485 q485
                 have hw485_4 := hx485_4
                 have hw485_3 := hx485_3
                 have hw485_2 := hx485_2
                 have hw485_1 := hx485_1
                 have hw485_0 := hx485_0
                 obtain rfl : ad478 = ad485 := (by injection e485)
                 replace hx485_0 := (HB.out.cell (World.block_lt_of_cell? w _ hx485_0)).trans hx485_0
                 replace hx485_1 := (HB.out.cell (World.block_lt_of_cell? w _ hx485_1)).trans hx485_1
                 replace hx485_2 := (HB.out.cell (World.block_lt_of_cell? w _ hx485_2)).trans hx485_2
                 replace hx485_3 := (HB.out.cell (World.block_lt_of_cell? w _ hx485_3)).trans hx485_3
                 replace hx485_4 := (HB.out.cell (World.block_lt_of_cell? w _ hx485_4)).trans hx485_4
                 replace p485 := eq_true p485
                 replace q485 := eq_true q485
                 refine start_ (n := 65) (S := fun w' => w'.cell? ⟨gb479, 0, none⟩ = some (.int .i64 ((rd_T89 l0_2 x3_1).f0)) ∧ w'.cell? ⟨gb479, 1, none⟩ = some (.int .i64 ((rd_T89 l0_2 x3_1).f1)) ∧ w'.cell? ⟨gb479, 2, none⟩ = some (.int .i64 ((rd_T89 l0_2 x3_1).f2)) ∧ w'.cell? ⟨gb479, 3, none⟩ = some (.int .i64 ((rd_T89 l0_2 x3_1).f3)) ∧ w'.cell? ⟨gb479, 4, none⟩ = some (.int .i64 ((rd_T89 l0_2 x3_1).f4)) ∧ w'.cell? ⟨gb475, 0, none⟩ = some (.int .i64 a0_0) ∧ w'.cell? ⟨gb475, 1, none⟩ = some (.int .i64 a0_1) ∧ w'.cell? ⟨gb475, 2, none⟩ = some (.slice (some ad478) l0_2.length c0_2) ∧ w'.cell? (ad478.add (((ji23)).toNat * 5)) = some (.int .i64 ((rd_T89 l0_2 (ji23)).f0)) ∧ w'.cell? ⟨(ad478.add (((ji23)).toNat * 5)).block, (ad478.add (((ji23)).toNat * 5)).off + 1, none⟩ = some (.int .i64 ((rd_T89 l0_2 (ji23)).f1)) ∧ w'.cell? ⟨(ad478.add (((ji23)).toNat * 5)).block, (ad478.add (((ji23)).toNat * 5)).off + 2, none⟩ = some (.int .i64 ((rd_T89 l0_2 (ji23)).f2)) ∧ w'.cell? ⟨(ad478.add (((ji23)).toNat * 5)).block, (ad478.add (((ji23)).toNat * 5)).off + 3, none⟩ = some (.int .i64 ((rd_T89 l0_2 (ji23)).f3)) ∧ w'.cell? ⟨(ad478.add (((ji23)).toNat * 5)).block, (ad478.add (((ji23)).toNat * 5)).off + 4, none⟩ = some (.int .i64 ((rd_T89 l0_2 (ji23)).f4))) (ds := []) z76_0 (by kernel_rfl) rfl rfl ⟨(bC76 BK479.out 0).trans rfl, (bC76 BK479.out 1).trans rfl, (bC76 BK479.out 2).trans rfl, (bC76 BK479.out 3).trans rfl, (bC76 BK479.out 4).trans rfl, (bC76 BK475.out 0).trans rfl, (bC76 BK475.out 1).trans rfl, (bC76 BK475.out 2).trans rfl, ((HB.out.cell (World.block_lt_of_cell? w _ hw485_0)).trans hw485_0), ((HB.out.cell (World.block_lt_of_cell? w _ hw485_1)).trans hw485_1), ((HB.out.cell (World.block_lt_of_cell? w _ hw485_2)).trans hw485_2), ((HB.out.cell (World.block_lt_of_cell? w _ hw485_3)).trans hw485_3), ((HB.out.cell (World.block_lt_of_cell? w _ hw485_4)).trans hw485_4)⟩ (fun hHeld => ?_); refine with_tabW spec_l6Ok.tab5 spec_l6Ok.bits5 (fun HT_ HW_ => ?_)
                 generalize w39.drew = w40 at BK475 BK479 HB hx485_0 hx485_1 hx485_2 hx485_3 hx485_4 hHeld ⊢
                 refine pu_ 0 17 z76_1 HT_.out ?_
                 refine pu_ 2 19 z76_2 HT_.out ?_
                 refine tk_ 1 18 z76_3 HT_.out HW_.out hHeld ?_
                 refine tk_ 3 20 z76_4 HT_.out HW_.out hHeld ?_
                 refine pu_ 4 21 z76_5 HT_.out ?_
                 refine one_ (i := 5) (N := some 22) z76_6 rfl rfl (one_of HT_.out (by kernel_rfl)) (by decide) (fun K hK => ?_)
                 refine goes_ Try.func92 (by kernel_rfl) rfl #[.int .i64 ((rd_T89 l0_2 x3_1).f0), .int .i64 0, .int .i64 (wrap64 (a0_0 - 1))] (by rfl) rfl rfl na_ ?_
                 with_reducible refine (spec_l1In.calls ((rd_T89 l0_2 x3_1).f0) 0 (wrap64 (a0_0 - 1)) true _ A5.out).mono ?_
                 rintro e w' ⟨rfl, ⟨nd, rfl⟩⟩
                 refine ⟨_, rfl, ?_⟩
                 refine hK.out _ _ ⟨(bC76 BK479.out 0).trans rfl, (bC76 BK479.out 1).trans rfl, (bC76 BK479.out 2).trans rfl, (bC76 BK479.out 3).trans rfl, (bC76 BK479.out 4).trans rfl, (bC76 BK475.out 0).trans rfl, (bC76 BK475.out 1).trans rfl, (bC76 BK475.out 2).trans rfl, ((HB.out.cell (World.block_lt_of_cell? w _ hw485_0)).trans hw485_0), ((HB.out.cell (World.block_lt_of_cell? w _ hw485_1)).trans hw485_1), ((HB.out.cell (World.block_lt_of_cell? w _ hw485_2)).trans hw485_2), ((HB.out.cell (World.block_lt_of_cell? w _ hw485_3)).trans hw485_3), ((HB.out.cell (World.block_lt_of_cell? w _ hw485_4)).trans hw485_4)⟩ (fun hHeld => ?_)
                 clear hK K
                 refine norm_ (a' := ?_) ?_ ?_
                 rotate_left
                 ·show Act.put _ (some 22) _ = _
                  simp only [Act.put, List.setIfInBounds_toArray, List.set_cons_zero, List.set_cons_succ, i64_w, i32_w]
                  rfl
                 refine pu_ 6 23 z76_7 HT_.out ?_
                 refine pu_ 7 24 z76_8 HT_.out ?_
                 refine pu_ 8 25 z76_9 HT_.out ?_
                 refine pu_ 10 27 z76_10 HT_.out ?_
                 refine tk_ 9 26 z76_11 HT_.out HW_.out hHeld ?_
                 refine tk_ 11 28 z76_12 HT_.out HW_.out hHeld ?_
                 refine pu_ 12 29 z76_13 HT_.out ?_
                 refine one_ (i := 13) (N := some 30) z76_14 rfl rfl (one_of HT_.out (by kernel_rfl)) (by decide) (fun K hK => ?_)
                 refine goes_ Try.func92 (by kernel_rfl) rfl #[.int .i64 ((rd_T89 l0_2 x3_1).f1), .int .i64 0, .int .i64 (wrap64 (a0_0 - 1))] (by rfl) rfl rfl na_ ?_
                 with_reducible refine (spec_l1In.calls ((rd_T89 l0_2 x3_1).f1) 0 (wrap64 (a0_0 - 1)) true _ A7.out).mono ?_
                 rintro e w' ⟨rfl, ⟨nd, rfl⟩⟩
                 refine ⟨_, rfl, ?_⟩
                 refine hK.out _ _ ⟨(bC76 BK479.out 0).trans rfl, (bC76 BK479.out 1).trans rfl, (bC76 BK479.out 2).trans rfl, (bC76 BK479.out 3).trans rfl, (bC76 BK479.out 4).trans rfl, (bC76 BK475.out 0).trans rfl, (bC76 BK475.out 1).trans rfl, (bC76 BK475.out 2).trans rfl, ((HB.out.cell (World.block_lt_of_cell? w _ hw485_0)).trans hw485_0), ((HB.out.cell (World.block_lt_of_cell? w _ hw485_1)).trans hw485_1), ((HB.out.cell (World.block_lt_of_cell? w _ hw485_2)).trans hw485_2), ((HB.out.cell (World.block_lt_of_cell? w _ hw485_3)).trans hw485_3), ((HB.out.cell (World.block_lt_of_cell? w _ hw485_4)).trans hw485_4)⟩ (fun hHeld => ?_)
                 clear hK K
                 refine norm_ (a' := ?_) ?_ ?_
                 rotate_left
                 ·show Act.put _ (some 30) _ = _
                  simp only [Act.put, List.setIfInBounds_toArray, List.set_cons_zero, List.set_cons_succ, i64_w, i32_w]
                  rfl
                 refine pu_ 14 31 z76_15 HT_.out ?_
                 refine pu_ 15 32 z76_16 HT_.out ?_
                 refine pu_ 16 33 z76_17 HT_.out ?_
                 refine pu_ 17 34 z76_18 HT_.out ?_
                 refine pu_ 19 36 z76_19 HT_.out ?_
                 refine tk_ 18 35 z76_20 HT_.out HW_.out hHeld ?_
                 refine tk_ 20 37 z76_21 HT_.out HW_.out hHeld ?_
                 refine pu_ 21 38 z76_22 HT_.out ?_
                 refine pu_ 22 39 z76_23 HT_.out ?_
                 refine pu_ 23 40 z76_24 HT_.out ?_
                 refine pu_ 24 41 z76_25 HT_.out ?_
                 refine tk_ 25 42 z76_26 HT_.out HW_.out hHeld ?_
                 refine one_ (i := 26) (N := some 43) z76_27 rfl rfl (one_of HT_.out (by kernel_rfl)) (by decide) (fun K hK => ?_)
                 refine goes_ Try.func92 (by kernel_rfl) rfl #[.int .i64 ((rd_T89 l0_2 x3_1).f2), .int .i64 0, .int .i64 199] (by rfl) rfl rfl na_ ?_
                 with_reducible refine (spec_l1In.calls ((rd_T89 l0_2 x3_1).f2) 0 199 true _ A16.out).mono ?_
                 rintro e w' ⟨rfl, ⟨nd, rfl⟩⟩
                 refine ⟨_, rfl, ?_⟩
                 refine hK.out _ _ ⟨(bC76 BK479.out 0).trans rfl, (bC76 BK479.out 1).trans rfl, (bC76 BK479.out 2).trans rfl, (bC76 BK479.out 3).trans rfl, (bC76 BK479.out 4).trans rfl, (bC76 BK475.out 0).trans rfl, (bC76 BK475.out 1).trans rfl, (bC76 BK475.out 2).trans rfl, ((HB.out.cell (World.block_lt_of_cell? w _ hw485_0)).trans hw485_0), ((HB.out.cell (World.block_lt_of_cell? w _ hw485_1)).trans hw485_1), ((HB.out.cell (World.block_lt_of_cell? w _ hw485_2)).trans hw485_2), ((HB.out.cell (World.block_lt_of_cell? w _ hw485_3)).trans hw485_3), ((HB.out.cell (World.block_lt_of_cell? w _ hw485_4)).trans hw485_4)⟩ (fun hHeld => ?_)
                 clear hK K
                 refine norm_ (a' := ?_) ?_ ?_
                 rotate_left
                 ·show Act.put _ (some 43) _ = _
                  simp only [Act.put, List.setIfInBounds_toArray, List.set_cons_zero, List.set_cons_succ, i64_w, i32_w]
                  rfl
                 refine pu_ 27 44 z76_28 HT_.out ?_
                 refine pu_ 28 45 z76_29 HT_.out ?_
                 refine pu_ 29 46 z76_30 HT_.out ?_
                 refine pu_ 30 47 z76_31 HT_.out ?_
                 refine pu_ 32 49 z76_66 HT_.out ?_
                 refine tk_ 31 48 z76_33 HT_.out HW_.out hHeld ?_
                 refine tk_ 33 50 z76_34 HT_.out HW_.out hHeld ?_
                 refine one_ (i := 34) (N := some 51) z76_35 rfl rfl (one_of HT_.out (by kernel_rfl)) (by decide) (fun K hK => ?_)
                 refine goes_ Try.func92 (by kernel_rfl) rfl #[.int .i64 ((rd_T89 l0_2 x3_1).f3), .int .i64 ((rd_T89 l0_2 x3_1).f2), .int .i64 199] (by rfl) rfl rfl na_ ?_
                 with_reducible refine (spec_l1In.calls ((rd_T89 l0_2 x3_1).f3) ((rd_T89 l0_2 x3_1).f2) 199 true _ A18.out).mono ?_
                 rintro e w' ⟨rfl, ⟨nd, rfl⟩⟩
                 refine ⟨_, rfl, ?_⟩
                 refine hK.out _ _ ⟨(bC76 BK479.out 0).trans rfl, (bC76 BK479.out 1).trans rfl, (bC76 BK479.out 2).trans rfl, (bC76 BK479.out 3).trans rfl, (bC76 BK479.out 4).trans rfl, (bC76 BK475.out 0).trans rfl, (bC76 BK475.out 1).trans rfl, (bC76 BK475.out 2).trans rfl, ((HB.out.cell (World.block_lt_of_cell? w _ hw485_0)).trans hw485_0), ((HB.out.cell (World.block_lt_of_cell? w _ hw485_1)).trans hw485_1), ((HB.out.cell (World.block_lt_of_cell? w _ hw485_2)).trans hw485_2), ((HB.out.cell (World.block_lt_of_cell? w _ hw485_3)).trans hw485_3), ((HB.out.cell (World.block_lt_of_cell? w _ hw485_4)).trans hw485_4)⟩ (fun hHeld => ?_)
                 clear hK K
                 refine norm_ (a' := ?_) ?_ ?_
                 rotate_left
                 ·show Act.put _ (some 51) _ = _
                  simp only [Act.put, List.setIfInBounds_toArray, List.set_cons_zero, List.set_cons_succ, i64_w, i32_w]
                  rfl
                 refine pu_ 35 52 z76_36 HT_.out ?_
                 refine pu_ 36 53 z76_37 HT_.out ?_
                 refine pu_ 37 54 z76_38 HT_.out ?_
                 refine pu_ 38 55 z76_39 HT_.out ?_
                 refine tk_ 39 56 z76_40 HT_.out HW_.out hHeld ?_
                 refine one_ (i := 40) (N := some 57) z76_41 rfl rfl (one_of HT_.out (by kernel_rfl)) (by decide) (fun K hK => ?_)
                 refine goes_ Try.func92 (by kernel_rfl) rfl #[.int .i64 ((rd_T89 l0_2 x3_1).f4), .int .i64 0, .int .i64 5] (by rfl) rfl rfl na_ ?_
                 with_reducible refine (spec_l1In.calls ((rd_T89 l0_2 x3_1).f4) 0 5 true _ A20.out).mono ?_
                 rintro e w' ⟨rfl, ⟨nd, rfl⟩⟩
                 refine ⟨_, rfl, ?_⟩
                 refine hK.out _ _ ⟨(bC76 BK479.out 0).trans rfl, (bC76 BK479.out 1).trans rfl, (bC76 BK479.out 2).trans rfl, (bC76 BK479.out 3).trans rfl, (bC76 BK479.out 4).trans rfl, (bC76 BK475.out 0).trans rfl, (bC76 BK475.out 1).trans rfl, (bC76 BK475.out 2).trans rfl, ((HB.out.cell (World.block_lt_of_cell? w _ hw485_0)).trans hw485_0), ((HB.out.cell (World.block_lt_of_cell? w _ hw485_1)).trans hw485_1), ((HB.out.cell (World.block_lt_of_cell? w _ hw485_2)).trans hw485_2), ((HB.out.cell (World.block_lt_of_cell? w _ hw485_3)).trans hw485_3), ((HB.out.cell (World.block_lt_of_cell? w _ hw485_4)).trans hw485_4)⟩ (fun hHeld => ?_)
                 clear hK K
                 refine norm_ (a' := ?_) ?_ ?_
                 rotate_left
                 ·show Act.put _ (some 57) _ = _
                  simp only [Act.put, List.setIfInBounds_toArray, List.set_cons_zero, List.set_cons_succ, i64_w, i32_w]
                  rfl
                 refine pu_ 41 58 z76_42 HT_.out ?_
                 refine pu_ 42 59 z76_43 HT_.out ?_
                 refine pu_ 43 60 z76_44 HT_.out ?_
                 refine pu_ 44 61 z76_45 HT_.out ?_
                 refine pu_ 45 62 z76_46 HT_.out ?_
                 refine pu_ 46 63 z76_47 HT_.out ?_
                 refine pu_ 47 64 z76_48 HT_.out ?_
                 refine pu_ 49 66 z76_67 HT_.out ?_
                 refine pu_ 51 68 z76_68 HT_.out ?_
                 refine pu_ 52 69 z76_69 HT_.out ?_
                 refine tk_ 48 65 z76_70 HT_.out HW_.out hHeld ?_
                 refine tk_ 50 67 z76_53 HT_.out HW_.out hHeld ?_
                 refine pu_ 53 70 z76_54 HT_.out ?_
                 refine pu_ 54 71 z76_55 HT_.out ?_
                 refine tk_ 55 72 z76_56 HT_.out HW_.out hHeld ?_
                 refine pu_ 56 73 z76_57 HT_.out ?_
                 refine pu_ 57 74 z76_58 HT_.out ?_
                 refine pu_ 58 75 z76_59 HT_.out ?_
                 refine pu_ 59 76 z76_60 HT_.out ?_
                 refine pu_ 61 78 z76_71 HT_.out ?_
                 refine tk_ 60 77 z76_62 HT_.out HW_.out hHeld ?_
                 refine one_ (i := 62) (N := some 79) z76_63 rfl rfl (one_of HT_.out (by kernel_rfl)) (by decide) (fun K hK => ?_)
                 refine goes_ Try.func100 (by kernel_rfl) rfl #[.agg #[.int .i64 a0_0, .int .i64 a0_1, .slice (some ad478) l0_2.length c0_2], .int .i64 x3_1] (by rfl) rfl rfl na_ ?_
                 with_reducible refine (spec_l6Goes.calls k1 a0_0 a0_1 _ _ l0_2 x3_1 true _ ?side1 ?side2 A33.out).mono ?_
                 (case side1 => exact nc_ (Kd.C_below HR0_2.out (ne_ HB.out)))
                 (case side2 => exact HC0_2.out)
                 rintro e w41 ⟨rfl, hb⟩
                 refine ⟨_, rfl, ?_⟩
                 replace BK475 := Aside0.mk (blk_below (g := gb475) (o := .cells #[.int .i64 a0_0, .int .i64 a0_1, .slice (some ad478) l0_2.length c0_2] 54 (0, 0)) (nb_ BK475.out) hb)
                 replace BK479 := Aside0.mk (blk_below (g := gb479) (o := .cells #[.int .i64 ((rd_T89 l0_2 x3_1).f0), .int .i64 ((rd_T89 l0_2 x3_1).f1), .int .i64 ((rd_T89 l0_2 x3_1).f2), .int .i64 ((rd_T89 l0_2 x3_1).f3), .int .i64 ((rd_T89 l0_2 x3_1).f4)] 89 (0, 0)) (nb_ BK479.out) hb)
                 replace HB := Aside0.mk (below_step (ne_ HB.out) hb)
                 (try clear hb)
                 (try clear hb2)
                 (try clear hk)
                 (try clear hi)
                 refine hK.out _ _ ⟨(bC76 BK479.out 0).trans rfl, (bC76 BK479.out 1).trans rfl, (bC76 BK479.out 2).trans rfl, (bC76 BK479.out 3).trans rfl, (bC76 BK479.out 4).trans rfl, (bC76 BK475.out 0).trans rfl, (bC76 BK475.out 1).trans rfl, (bC76 BK475.out 2).trans rfl, ((HB.out.cell (World.block_lt_of_cell? w _ hw485_0)).trans hw485_0), ((HB.out.cell (World.block_lt_of_cell? w _ hw485_1)).trans hw485_1), ((HB.out.cell (World.block_lt_of_cell? w _ hw485_2)).trans hw485_2), ((HB.out.cell (World.block_lt_of_cell? w _ hw485_3)).trans hw485_3), ((HB.out.cell (World.block_lt_of_cell? w _ hw485_4)).trans hw485_4)⟩ (fun hHeld => ?_)
                 clear hK K
                 refine norm_ (a' := ?_) ?_ ?_
                 rotate_left
                 ·show Act.put _ (some 79) _ = _
                  simp only [Act.put, List.setIfInBounds_toArray, List.set_cons_zero, List.set_cons_succ, i64_w, i32_w]
                  rfl
                 refine pu_ 63 80 z76_64 HT_.out ?_
                 refine pu_ 64 81 z76_65 HT_.out ?_
                 refine done_ (done_of HT_.out (by kernel_rfl)) ?_
                 try go_wp2
                 go_roundg k1
                 case measure => have := HK1.out; omega
                 case rel => exact ⟨(wrap64 (x3_1 + 1)), ns_, H', ⟨by have := HK1.out; omega⟩, ⟨by (with_reducible repeat (first | refine bN76 ?_ _ | refine bD76 ?_ | refine bA76 ?_ _)); exact BK475.out⟩, ⟨by repeat (first | (with_reducible first | exact HB.out | apply below_alloc | apply eN76 | apply eD76 | refine bS76 ?_ GE475.out | refine bS76 ?_ GE479.out) | exact HB.out)⟩⟩
                ·replace c34 := Bool.eq_false_iff.mpr c34
                 subst c34
                 have H1 : (some false) = some r := by rw [if_neg (show ¬ (false = true) by decide)] at H; exact H
                 clear H
                 have H := H1
                 clear H1
                 obtain rfl := Option.some.inj H
                 have hcz42_0 : wr.cell? ⟨gb475, 0, none⟩ = some (.int .i64 a0_0) := (bC76 BK475.out 0).trans rfl
                 have hcz42_1 : wr.cell? ⟨gb475, 1, none⟩ = some (.int .i64 a0_1) := (bC76 BK475.out 1).trans rfl
                 have hcz42_2 : wr.cell? ⟨gb475, 2, none⟩ = some (.slice A0_2 l0_2.length c0_2) := (bC76 BK475.out 2).trans rfl
                 have hfz42_0 := blk_frozen BK475.out 0
                 have hfz42_1 := blk_frozen BK475.out 1
                 have hfz42_2 := blk_frozen BK475.out 2
                 have p478 : 0 ≤ (x3_1 : Int) := of_decide_eq_true nx_
                 have q478 : x3_1 < (l0_2.length : Int) := of_decide_eq_true nx_
                 obtain ⟨ad478, e478, hx478_0, hx478_1, hx478_2, hx478_3, hx478_4⟩ := at_T89 HR0_2.out x3_1 p478 q478
                 cases e478
                 replace hx478_0 := (HB.out.cell (World.block_lt_of_cell? w _ hx478_0)).trans hx478_0
                 replace hx478_1 := (HB.out.cell (World.block_lt_of_cell? w _ hx478_1)).trans hx478_1
                 replace hx478_2 := (HB.out.cell (World.block_lt_of_cell? w _ hx478_2)).trans hx478_2
                 replace hx478_3 := (HB.out.cell (World.block_lt_of_cell? w _ hx478_3)).trans hx478_3
                 replace hx478_4 := (HB.out.cell (World.block_lt_of_cell? w _ hx478_4)).trans hx478_4
                 replace p478 := eq_true p478
                 replace q478 := eq_true q478
                 try go_wp2_with (first | ((with_reducible refine gate_dst (N := 4) rfl ?_); (try (refine gate_guard (by rfl) ?_; dsimp only)); refine box_event ?hg (N := 4) ?hd (cs := #[.int .i64 0, .int .i64 0, .int .i64 0, .int .i64 0, .int .i64 0]) (t := 89) ?hr ?_; (case hd => rfl); (case hg => rfl); (case hr => first | (go_simp; done) | (go_simp; rfl)); intro gb479 hg w43 hbox hb; have n0_ := Aside0.mk (blk_below (g := gb475) (o := .cells #[.int .i64 a0_0, .int .i64 a0_1, .slice (some ad478) l0_2.length c0_2] 54 (0, 0)) (nb_ BK475.out) hb); have n1_ := Aside0.mk (below_step (ne_ HB.out) hb); have n2_ := Aside0.mk (hbox); have n3_ := Aside0.mk ((by rw [hg]; exact (below_size (ne_ HB.out)) : w.heap.size ≤ gb479)); have n4_ := Aside0.mk ((by rw [hg]; exact (below_size (ne_ HB.out)) : w.heap.size ≤ gb479)); have n5_ := Aside0.mk ((by rw [hg]; exact Nat.ne_of_lt (blk_lt (g := gb475) (o := .cells #[.int .i64 a0_0, .int .i64 a0_1, .slice (some ad478) l0_2.length c0_2] 54 (0, 0)) (nb_ BK475.out)) : gb475 ≠ gb479)); have n6_ := Aside0.mk ((by rw [hg]; exact Nat.ne_of_gt (blk_lt (g := gb475) (o := .cells #[.int .i64 a0_0, .int .i64 a0_1, .slice (some ad478) l0_2.length c0_2] 54 (0, 0)) (nb_ BK475.out)) : gb479 ≠ gb475)); clear BK475; clear HB; have BK475 := n0_; have HB := n1_; have BK479 := n2_; have GW479 := n3_; have GE479 := n4_; have NB475_479 := n5_; have NB479_475 := n6_; clear n0_ n1_ n2_ n3_ n4_ n5_ n6_; clear hb hbox hg; have hnb44 := NB479_475.out; have hnc44 := NB475_479.out; have hcz45_0 : w43.cell? ⟨gb479, 0, none⟩ = some (.int .i64 0) := (bC76 BK479.out 0).trans rfl; have hcz45_1 : w43.cell? ⟨gb479, 1, none⟩ = some (.int .i64 0) := (bC76 BK479.out 1).trans rfl; have hcz45_2 : w43.cell? ⟨gb479, 2, none⟩ = some (.int .i64 0) := (bC76 BK479.out 2).trans rfl; have hcz45_3 : w43.cell? ⟨gb479, 3, none⟩ = some (.int .i64 0) := (bC76 BK479.out 3).trans rfl; have hcz45_4 : w43.cell? ⟨gb479, 4, none⟩ = some (.int .i64 0) := (bC76 BK479.out 4).trans rfl; have hfz45_0 := blk_frozen BK479.out 0; have hfz45_1 := blk_frozen BK479.out 1; have hfz45_2 := blk_frozen BK479.out 2; have hfz45_3 := blk_frozen BK479.out 3; have hfz45_4 := blk_frozen BK479.out 4))
                 have n0_ : Aside0 ((((((w43.setCell ⟨gb479, 0, none⟩ (.int .i64 ((rd_T89 l0_2 x3_1).f0))).setCell ⟨gb479, 1, none⟩ (.int .i64 ((rd_T89 l0_2 x3_1).f1))).setCell ⟨gb479, 2, none⟩ (.int .i64 ((rd_T89 l0_2 x3_1).f2))).setCell ⟨gb479, 3, none⟩ (.int .i64 ((rd_T89 l0_2 x3_1).f3))).setCell ⟨gb479, 4, none⟩ (.int .i64 ((rd_T89 l0_2 x3_1).f4))).heap[gb475]? = some (.cells #[.int .i64 a0_0, .int .i64 a0_1, .slice (some ad478) l0_2.length c0_2] 54 (0, 0))) := ⟨by (with_reducible repeat (first | refine bN76 ?_ _ | refine bD76 ?_ | refine bA76 ?_ _)); refine blk_far ?_ NB475_479.out _; (with_reducible repeat (first | refine bN76 ?_ _ | refine bD76 ?_ | refine bA76 ?_ _)); refine blk_far ?_ NB475_479.out _; (with_reducible repeat (first | refine bN76 ?_ _ | refine bD76 ?_ | refine bA76 ?_ _)); refine blk_far ?_ NB475_479.out _; (with_reducible repeat (first | refine bN76 ?_ _ | refine bD76 ?_ | refine bA76 ?_ _)); refine blk_far ?_ NB475_479.out _; (with_reducible repeat (first | refine bN76 ?_ _ | refine bD76 ?_ | refine bA76 ?_ _)); refine blk_far ?_ NB475_479.out _; (with_reducible repeat (first | refine bN76 ?_ _ | refine bD76 ?_ | refine bA76 ?_ _)); exact BK475.out⟩
                 have n1_ : Aside0 ((((((w43.setCell ⟨gb479, 0, none⟩ (.int .i64 ((rd_T89 l0_2 x3_1).f0))).setCell ⟨gb479, 1, none⟩ (.int .i64 ((rd_T89 l0_2 x3_1).f1))).setCell ⟨gb479, 2, none⟩ (.int .i64 ((rd_T89 l0_2 x3_1).f2))).setCell ⟨gb479, 3, none⟩ (.int .i64 ((rd_T89 l0_2 x3_1).f3))).setCell ⟨gb479, 4, none⟩ (.int .i64 ((rd_T89 l0_2 x3_1).f4))).heap[gb479]? = some (.cells #[.int .i64 ((rd_T89 l0_2 x3_1).f0), .int .i64 ((rd_T89 l0_2 x3_1).f1), .int .i64 ((rd_T89 l0_2 x3_1).f2), .int .i64 ((rd_T89 l0_2 x3_1).f3), .int .i64 ((rd_T89 l0_2 x3_1).f4)] 89 (0, 0))) := ⟨by (with_reducible repeat (first | refine bN76 ?_ _ | refine bD76 ?_ | refine bA76 ?_ _)); refine blk_put (cs := #[.int .i64 ((rd_T89 l0_2 x3_1).f0), .int .i64 ((rd_T89 l0_2 x3_1).f1), .int .i64 ((rd_T89 l0_2 x3_1).f2), .int .i64 ((rd_T89 l0_2 x3_1).f3), .int .i64 0]) ?_ 4 _ rfl; (with_reducible repeat (first | refine bN76 ?_ _ | refine bD76 ?_ | refine bA76 ?_ _)); refine blk_put (cs := #[.int .i64 ((rd_T89 l0_2 x3_1).f0), .int .i64 ((rd_T89 l0_2 x3_1).f1), .int .i64 ((rd_T89 l0_2 x3_1).f2), .int .i64 0, .int .i64 0]) ?_ 3 _ rfl; (with_reducible repeat (first | refine bN76 ?_ _ | refine bD76 ?_ | refine bA76 ?_ _)); refine blk_put (cs := #[.int .i64 ((rd_T89 l0_2 x3_1).f0), .int .i64 ((rd_T89 l0_2 x3_1).f1), .int .i64 0, .int .i64 0, .int .i64 0]) ?_ 2 _ rfl; (with_reducible repeat (first | refine bN76 ?_ _ | refine bD76 ?_ | refine bA76 ?_ _)); refine blk_put (cs := #[.int .i64 ((rd_T89 l0_2 x3_1).f0), .int .i64 0, .int .i64 0, .int .i64 0, .int .i64 0]) ?_ 1 _ rfl; (with_reducible repeat (first | refine bN76 ?_ _ | refine bD76 ?_ | refine bA76 ?_ _)); refine blk_put (cs := #[.int .i64 0, .int .i64 0, .int .i64 0, .int .i64 0, .int .i64 0]) ?_ 0 _ rfl; (with_reducible repeat (first | refine bN76 ?_ _ | refine bD76 ?_ | refine bA76 ?_ _)); exact BK479.out⟩
                 have n2_ : Aside0 (Below w.heap.size w (((((w43.setCell ⟨gb479, 0, none⟩ (.int .i64 ((rd_T89 l0_2 x3_1).f0))).setCell ⟨gb479, 1, none⟩ (.int .i64 ((rd_T89 l0_2 x3_1).f1))).setCell ⟨gb479, 2, none⟩ (.int .i64 ((rd_T89 l0_2 x3_1).f2))).setCell ⟨gb479, 3, none⟩ (.int .i64 ((rd_T89 l0_2 x3_1).f3))).setCell ⟨gb479, 4, none⟩ (.int .i64 ((rd_T89 l0_2 x3_1).f4)))) := ⟨by repeat (first | (with_reducible first | exact HB.out | apply below_alloc | apply eN76 | apply eD76 | refine bS76 ?_ GE475.out | refine bS76 ?_ GE479.out) | exact HB.out)⟩
                 (try clear BK475)
                 (try clear BK479)
                 (try clear HB)
                 generalize (((((w43.setCell ⟨gb479, 0, none⟩ (.int .i64 ((rd_T89 l0_2 x3_1).f0))).setCell ⟨gb479, 1, none⟩ (.int .i64 ((rd_T89 l0_2 x3_1).f1))).setCell ⟨gb479, 2, none⟩ (.int .i64 ((rd_T89 l0_2 x3_1).f2))).setCell ⟨gb479, 3, none⟩ (.int .i64 ((rd_T89 l0_2 x3_1).f3))).setCell ⟨gb479, 4, none⟩ (.int .i64 ((rd_T89 l0_2 x3_1).f4))) = w46 at n0_ n1_ n2_ ⊢
                 have BK475 := n0_
                 have BK479 := n1_
                 have HB := n2_
                 clear n0_ n1_ n2_
                 replace BK475 := Aside0.mk (bD76 BK475.out)
                 replace BK479 := Aside0.mk (bD76 BK479.out)
                 replace HB := Aside0.mk (eD76 HB.out)
                 have p485 : 0 ≤ ((ji23) : Int) := of_decide_eq_true nx_
                 have q485 : (ji23) < (l0_2.length : Int) := of_decide_eq_true nx_
                 obtain ⟨ad485, e485, hx485_0, hx485_1, hx485_2, hx485_3, hx485_4⟩ := at_T89 HR0_2.out (ji23) p485 q485
                 have hw485_4 := hx485_4
                 have hw485_3 := hx485_3
                 have hw485_2 := hx485_2
                 have hw485_1 := hx485_1
                 have hw485_0 := hx485_0
                 obtain rfl : ad478 = ad485 := (by injection e485)
                 replace hx485_0 := (HB.out.cell (World.block_lt_of_cell? w _ hx485_0)).trans hx485_0
                 replace hx485_1 := (HB.out.cell (World.block_lt_of_cell? w _ hx485_1)).trans hx485_1
                 replace hx485_2 := (HB.out.cell (World.block_lt_of_cell? w _ hx485_2)).trans hx485_2
                 replace hx485_3 := (HB.out.cell (World.block_lt_of_cell? w _ hx485_3)).trans hx485_3
                 replace hx485_4 := (HB.out.cell (World.block_lt_of_cell? w _ hx485_4)).trans hx485_4
                 replace p485 := eq_true p485
                 replace q485 := eq_true q485
                 refine start_ (n := 65) (S := fun w' => w'.cell? ⟨gb479, 0, none⟩ = some (.int .i64 ((rd_T89 l0_2 x3_1).f0)) ∧ w'.cell? ⟨gb479, 1, none⟩ = some (.int .i64 ((rd_T89 l0_2 x3_1).f1)) ∧ w'.cell? ⟨gb479, 2, none⟩ = some (.int .i64 ((rd_T89 l0_2 x3_1).f2)) ∧ w'.cell? ⟨gb479, 3, none⟩ = some (.int .i64 ((rd_T89 l0_2 x3_1).f3)) ∧ w'.cell? ⟨gb479, 4, none⟩ = some (.int .i64 ((rd_T89 l0_2 x3_1).f4)) ∧ w'.cell? ⟨gb475, 0, none⟩ = some (.int .i64 a0_0) ∧ w'.cell? ⟨gb475, 1, none⟩ = some (.int .i64 a0_1) ∧ w'.cell? ⟨gb475, 2, none⟩ = some (.slice (some ad478) l0_2.length c0_2) ∧ w'.cell? (ad478.add (((ji23)).toNat * 5)) = some (.int .i64 ((rd_T89 l0_2 (ji23)).f0)) ∧ w'.cell? ⟨(ad478.add (((ji23)).toNat * 5)).block, (ad478.add (((ji23)).toNat * 5)).off + 1, none⟩ = some (.int .i64 ((rd_T89 l0_2 (ji23)).f1)) ∧ w'.cell? ⟨(ad478.add (((ji23)).toNat * 5)).block, (ad478.add (((ji23)).toNat * 5)).off + 2, none⟩ = some (.int .i64 ((rd_T89 l0_2 (ji23)).f2)) ∧ w'.cell? ⟨(ad478.add (((ji23)).toNat * 5)).block, (ad478.add (((ji23)).toNat * 5)).off + 3, none⟩ = some (.int .i64 ((rd_T89 l0_2 (ji23)).f3)) ∧ w'.cell? ⟨(ad478.add (((ji23)).toNat * 5)).block, (ad478.add (((ji23)).toNat * 5)).off + 4, none⟩ = some (.int .i64 ((rd_T89 l0_2 (ji23)).f4))) (ds := []) z76_0 (by kernel_rfl) rfl rfl ⟨(bC76 BK479.out 0).trans rfl, (bC76 BK479.out 1).trans rfl, (bC76 BK479.out 2).trans rfl, (bC76 BK479.out 3).trans rfl, (bC76 BK479.out 4).trans rfl, (bC76 BK475.out 0).trans rfl, (bC76 BK475.out 1).trans rfl, (bC76 BK475.out 2).trans rfl, ((HB.out.cell (World.block_lt_of_cell? w _ hw485_0)).trans hw485_0), ((HB.out.cell (World.block_lt_of_cell? w _ hw485_1)).trans hw485_1), ((HB.out.cell (World.block_lt_of_cell? w _ hw485_2)).trans hw485_2), ((HB.out.cell (World.block_lt_of_cell? w _ hw485_3)).trans hw485_3), ((HB.out.cell (World.block_lt_of_cell? w _ hw485_4)).trans hw485_4)⟩ (fun hHeld => ?_); refine with_tabW spec_l6Ok.tab5 spec_l6Ok.bits5 (fun HT_ HW_ => ?_)
                 generalize w46.drew = w47 at BK475 BK479 HB hx485_0 hx485_1 hx485_2 hx485_3 hx485_4 hHeld ⊢
                 refine pu_ 0 17 z76_1 HT_.out ?_
                 refine pu_ 2 19 z76_2 HT_.out ?_
                 refine tk_ 1 18 z76_3 HT_.out HW_.out hHeld ?_
                 refine tk_ 3 20 z76_4 HT_.out HW_.out hHeld ?_
                 refine pu_ 4 21 z76_5 HT_.out ?_
                 refine one_ (i := 5) (N := some 22) z76_6 rfl rfl (one_of HT_.out (by kernel_rfl)) (by decide) (fun K hK => ?_)
                 refine goes_ Try.func92 (by kernel_rfl) rfl #[.int .i64 ((rd_T89 l0_2 x3_1).f0), .int .i64 0, .int .i64 (wrap64 (a0_0 - 1))] (by rfl) rfl rfl na_ ?_
                 with_reducible refine (spec_l1In.calls ((rd_T89 l0_2 x3_1).f0) 0 (wrap64 (a0_0 - 1)) true _ A5.out).mono ?_
                 rintro e w' ⟨rfl, ⟨nd, rfl⟩⟩
                 refine ⟨_, rfl, ?_⟩
                 refine hK.out _ _ ⟨(bC76 BK479.out 0).trans rfl, (bC76 BK479.out 1).trans rfl, (bC76 BK479.out 2).trans rfl, (bC76 BK479.out 3).trans rfl, (bC76 BK479.out 4).trans rfl, (bC76 BK475.out 0).trans rfl, (bC76 BK475.out 1).trans rfl, (bC76 BK475.out 2).trans rfl, ((HB.out.cell (World.block_lt_of_cell? w _ hw485_0)).trans hw485_0), ((HB.out.cell (World.block_lt_of_cell? w _ hw485_1)).trans hw485_1), ((HB.out.cell (World.block_lt_of_cell? w _ hw485_2)).trans hw485_2), ((HB.out.cell (World.block_lt_of_cell? w _ hw485_3)).trans hw485_3), ((HB.out.cell (World.block_lt_of_cell? w _ hw485_4)).trans hw485_4)⟩ (fun hHeld => ?_)
                 clear hK K
                 refine norm_ (a' := ?_) ?_ ?_
                 rotate_left
                 ·show Act.put _ (some 22) _ = _
                  simp only [Act.put, List.setIfInBounds_toArray, List.set_cons_zero, List.set_cons_succ, i64_w, i32_w]
                  rfl
                 refine pu_ 6 23 z76_7 HT_.out ?_
                 refine pu_ 7 24 z76_8 HT_.out ?_
                 refine pu_ 8 25 z76_9 HT_.out ?_
                 refine pu_ 10 27 z76_10 HT_.out ?_
                 refine tk_ 9 26 z76_11 HT_.out HW_.out hHeld ?_
                 refine tk_ 11 28 z76_12 HT_.out HW_.out hHeld ?_
                 refine pu_ 12 29 z76_13 HT_.out ?_
                 refine one_ (i := 13) (N := some 30) z76_14 rfl rfl (one_of HT_.out (by kernel_rfl)) (by decide) (fun K hK => ?_)
                 refine goes_ Try.func92 (by kernel_rfl) rfl #[.int .i64 ((rd_T89 l0_2 x3_1).f1), .int .i64 0, .int .i64 (wrap64 (a0_0 - 1))] (by rfl) rfl rfl na_ ?_
                 with_reducible refine (spec_l1In.calls ((rd_T89 l0_2 x3_1).f1) 0 (wrap64 (a0_0 - 1)) true _ A7.out).mono ?_
                 rintro e w' ⟨rfl, ⟨nd, rfl⟩⟩
                 refine ⟨_, rfl, ?_⟩
                 refine hK.out _ _ ⟨(bC76 BK479.out 0).trans rfl, (bC76 BK479.out 1).trans rfl, (bC76 BK479.out 2).trans rfl, (bC76 BK479.out 3).trans rfl, (bC76 BK479.out 4).trans rfl, (bC76 BK475.out 0).trans rfl, (bC76 BK475.out 1).trans rfl, (bC76 BK475.out 2).trans rfl, ((HB.out.cell (World.block_lt_of_cell? w _ hw485_0)).trans hw485_0), ((HB.out.cell (World.block_lt_of_cell? w _ hw485_1)).trans hw485_1), ((HB.out.cell (World.block_lt_of_cell? w _ hw485_2)).trans hw485_2), ((HB.out.cell (World.block_lt_of_cell? w _ hw485_3)).trans hw485_3), ((HB.out.cell (World.block_lt_of_cell? w _ hw485_4)).trans hw485_4)⟩ (fun hHeld => ?_)
                 clear hK K
                 refine norm_ (a' := ?_) ?_ ?_
                 rotate_left
                 ·show Act.put _ (some 30) _ = _
                  simp only [Act.put, List.setIfInBounds_toArray, List.set_cons_zero, List.set_cons_succ, i64_w, i32_w]
                  rfl
                 refine pu_ 14 31 z76_15 HT_.out ?_
                 refine pu_ 15 32 z76_16 HT_.out ?_
                 refine pu_ 16 33 z76_17 HT_.out ?_
                 refine pu_ 17 34 z76_18 HT_.out ?_
                 refine pu_ 19 36 z76_19 HT_.out ?_
                 refine tk_ 18 35 z76_20 HT_.out HW_.out hHeld ?_
                 refine tk_ 20 37 z76_21 HT_.out HW_.out hHeld ?_
                 refine pu_ 21 38 z76_22 HT_.out ?_
                 refine pu_ 22 39 z76_23 HT_.out ?_
                 refine pu_ 23 40 z76_24 HT_.out ?_
                 refine pu_ 24 41 z76_25 HT_.out ?_
                 refine tk_ 25 42 z76_26 HT_.out HW_.out hHeld ?_
                 refine one_ (i := 26) (N := some 43) z76_27 rfl rfl (one_of HT_.out (by kernel_rfl)) (by decide) (fun K hK => ?_)
                 refine goes_ Try.func92 (by kernel_rfl) rfl #[.int .i64 ((rd_T89 l0_2 x3_1).f2), .int .i64 0, .int .i64 199] (by rfl) rfl rfl na_ ?_
                 with_reducible refine (spec_l1In.calls ((rd_T89 l0_2 x3_1).f2) 0 199 true _ A16.out).mono ?_
                 rintro e w' ⟨rfl, ⟨nd, rfl⟩⟩
                 refine ⟨_, rfl, ?_⟩
                 refine hK.out _ _ ⟨(bC76 BK479.out 0).trans rfl, (bC76 BK479.out 1).trans rfl, (bC76 BK479.out 2).trans rfl, (bC76 BK479.out 3).trans rfl, (bC76 BK479.out 4).trans rfl, (bC76 BK475.out 0).trans rfl, (bC76 BK475.out 1).trans rfl, (bC76 BK475.out 2).trans rfl, ((HB.out.cell (World.block_lt_of_cell? w _ hw485_0)).trans hw485_0), ((HB.out.cell (World.block_lt_of_cell? w _ hw485_1)).trans hw485_1), ((HB.out.cell (World.block_lt_of_cell? w _ hw485_2)).trans hw485_2), ((HB.out.cell (World.block_lt_of_cell? w _ hw485_3)).trans hw485_3), ((HB.out.cell (World.block_lt_of_cell? w _ hw485_4)).trans hw485_4)⟩ (fun hHeld => ?_)
                 clear hK K
                 refine norm_ (a' := ?_) ?_ ?_
                 rotate_left
                 ·show Act.put _ (some 43) _ = _
                  simp only [Act.put, List.setIfInBounds_toArray, List.set_cons_zero, List.set_cons_succ, i64_w, i32_w]
                  rfl
                 refine pu_ 27 44 z76_28 HT_.out ?_
                 refine pu_ 28 45 z76_29 HT_.out ?_
                 refine pu_ 29 46 z76_30 HT_.out ?_
                 refine pu_ 30 47 z76_31 HT_.out ?_
                 refine pu_ 32 49 z76_66 HT_.out ?_
                 refine tk_ 31 48 z76_33 HT_.out HW_.out hHeld ?_
                 refine tk_ 33 50 z76_34 HT_.out HW_.out hHeld ?_
                 refine one_ (i := 34) (N := some 51) z76_35 rfl rfl (one_of HT_.out (by kernel_rfl)) (by decide) (fun K hK => ?_)
                 refine goes_ Try.func92 (by kernel_rfl) rfl #[.int .i64 ((rd_T89 l0_2 x3_1).f3), .int .i64 ((rd_T89 l0_2 x3_1).f2), .int .i64 199] (by rfl) rfl rfl na_ ?_
                 with_reducible refine (spec_l1In.calls ((rd_T89 l0_2 x3_1).f3) ((rd_T89 l0_2 x3_1).f2) 199 true _ A18.out).mono ?_
                 rintro e w' ⟨rfl, ⟨nd, rfl⟩⟩
                 refine ⟨_, rfl, ?_⟩
                 refine hK.out _ _ ⟨(bC76 BK479.out 0).trans rfl, (bC76 BK479.out 1).trans rfl, (bC76 BK479.out 2).trans rfl, (bC76 BK479.out 3).trans rfl, (bC76 BK479.out 4).trans rfl, (bC76 BK475.out 0).trans rfl, (bC76 BK475.out 1).trans rfl, (bC76 BK475.out 2).trans rfl, ((HB.out.cell (World.block_lt_of_cell? w _ hw485_0)).trans hw485_0), ((HB.out.cell (World.block_lt_of_cell? w _ hw485_1)).trans hw485_1), ((HB.out.cell (World.block_lt_of_cell? w _ hw485_2)).trans hw485_2), ((HB.out.cell (World.block_lt_of_cell? w _ hw485_3)).trans hw485_3), ((HB.out.cell (World.block_lt_of_cell? w _ hw485_4)).trans hw485_4)⟩ (fun hHeld => ?_)
                 clear hK K
                 refine norm_ (a' := ?_) ?_ ?_
                 rotate_left
                 ·show Act.put _ (some 51) _ = _
                  simp only [Act.put, List.setIfInBounds_toArray, List.set_cons_zero, List.set_cons_succ, i64_w, i32_w]
                  rfl
                 refine pu_ 35 52 z76_36 HT_.out ?_
                 refine pu_ 36 53 z76_37 HT_.out ?_
                 refine pu_ 37 54 z76_38 HT_.out ?_
                 refine pu_ 38 55 z76_39 HT_.out ?_
                 refine tk_ 39 56 z76_40 HT_.out HW_.out hHeld ?_
                 refine one_ (i := 40) (N := some 57) z76_41 rfl rfl (one_of HT_.out (by kernel_rfl)) (by decide) (fun K hK => ?_)
                 refine goes_ Try.func92 (by kernel_rfl) rfl #[.int .i64 ((rd_T89 l0_2 x3_1).f4), .int .i64 0, .int .i64 5] (by rfl) rfl rfl na_ ?_
                 with_reducible refine (spec_l1In.calls ((rd_T89 l0_2 x3_1).f4) 0 5 true _ A20.out).mono ?_
                 rintro e w' ⟨rfl, ⟨nd, rfl⟩⟩
                 refine ⟨_, rfl, ?_⟩
                 refine hK.out _ _ ⟨(bC76 BK479.out 0).trans rfl, (bC76 BK479.out 1).trans rfl, (bC76 BK479.out 2).trans rfl, (bC76 BK479.out 3).trans rfl, (bC76 BK479.out 4).trans rfl, (bC76 BK475.out 0).trans rfl, (bC76 BK475.out 1).trans rfl, (bC76 BK475.out 2).trans rfl, ((HB.out.cell (World.block_lt_of_cell? w _ hw485_0)).trans hw485_0), ((HB.out.cell (World.block_lt_of_cell? w _ hw485_1)).trans hw485_1), ((HB.out.cell (World.block_lt_of_cell? w _ hw485_2)).trans hw485_2), ((HB.out.cell (World.block_lt_of_cell? w _ hw485_3)).trans hw485_3), ((HB.out.cell (World.block_lt_of_cell? w _ hw485_4)).trans hw485_4)⟩ (fun hHeld => ?_)
                 clear hK K
                 refine norm_ (a' := ?_) ?_ ?_
                 rotate_left
                 ·show Act.put _ (some 57) _ = _
                  simp only [Act.put, List.setIfInBounds_toArray, List.set_cons_zero, List.set_cons_succ, i64_w, i32_w]
                  rfl
                 refine pu_ 41 58 z76_42 HT_.out ?_
                 refine pu_ 42 59 z76_43 HT_.out ?_
                 refine pu_ 43 60 z76_44 HT_.out ?_
                 refine pu_ 44 61 z76_45 HT_.out ?_
                 refine pu_ 45 62 z76_46 HT_.out ?_
                 refine pu_ 46 63 z76_47 HT_.out ?_
                 refine pu_ 47 64 z76_48 HT_.out ?_
                 refine pu_ 49 66 z76_67 HT_.out ?_
                 refine pu_ 51 68 z76_68 HT_.out ?_
                 refine pu_ 52 69 z76_69 HT_.out ?_
                 refine tk_ 48 65 z76_70 HT_.out HW_.out hHeld ?_
                 refine tk_ 50 67 z76_53 HT_.out HW_.out hHeld ?_
                 refine pu_ 53 70 z76_54 HT_.out ?_
                 refine pu_ 54 71 z76_55 HT_.out ?_
                 refine tk_ 55 72 z76_56 HT_.out HW_.out hHeld ?_
                 refine pu_ 56 73 z76_57 HT_.out ?_
                 refine pu_ 57 74 z76_58 HT_.out ?_
                 refine pu_ 58 75 z76_59 HT_.out ?_
                 refine pu_ 59 76 z76_60 HT_.out ?_
                 refine pu_ 61 78 z76_71 HT_.out ?_
                 refine tk_ 60 77 z76_62 HT_.out HW_.out hHeld ?_
                 refine one_ (i := 62) (N := some 79) z76_63 rfl rfl (one_of HT_.out (by kernel_rfl)) (by decide) (fun K hK => ?_)
                 refine goes_ Try.func100 (by kernel_rfl) rfl #[.agg #[.int .i64 a0_0, .int .i64 a0_1, .slice (some ad478) l0_2.length c0_2], .int .i64 x3_1] (by rfl) rfl rfl na_ ?_
                 with_reducible refine (spec_l6Goes.calls k1 a0_0 a0_1 _ _ l0_2 x3_1 false _ ?side1 ?side2 A33.out).mono ?_
                 (case side1 => exact nc_ (Kd.C_below HR0_2.out (ne_ HB.out)))
                 (case side2 => exact HC0_2.out)
                 rintro e w48 ⟨rfl, hb⟩
                 refine ⟨_, rfl, ?_⟩
                 replace BK475 := Aside0.mk (blk_below (g := gb475) (o := .cells #[.int .i64 a0_0, .int .i64 a0_1, .slice (some ad478) l0_2.length c0_2] 54 (0, 0)) (nb_ BK475.out) hb)
                 replace BK479 := Aside0.mk (blk_below (g := gb479) (o := .cells #[.int .i64 ((rd_T89 l0_2 x3_1).f0), .int .i64 ((rd_T89 l0_2 x3_1).f1), .int .i64 ((rd_T89 l0_2 x3_1).f2), .int .i64 ((rd_T89 l0_2 x3_1).f3), .int .i64 ((rd_T89 l0_2 x3_1).f4)] 89 (0, 0)) (nb_ BK479.out) hb)
                 replace HB := Aside0.mk (below_step (ne_ HB.out) hb)
                 (try clear hb)
                 (try clear hb2)
                 (try clear hk)
                 (try clear hi)
                 refine hK.out _ _ ⟨(bC76 BK479.out 0).trans rfl, (bC76 BK479.out 1).trans rfl, (bC76 BK479.out 2).trans rfl, (bC76 BK479.out 3).trans rfl, (bC76 BK479.out 4).trans rfl, (bC76 BK475.out 0).trans rfl, (bC76 BK475.out 1).trans rfl, (bC76 BK475.out 2).trans rfl, ((HB.out.cell (World.block_lt_of_cell? w _ hw485_0)).trans hw485_0), ((HB.out.cell (World.block_lt_of_cell? w _ hw485_1)).trans hw485_1), ((HB.out.cell (World.block_lt_of_cell? w _ hw485_2)).trans hw485_2), ((HB.out.cell (World.block_lt_of_cell? w _ hw485_3)).trans hw485_3), ((HB.out.cell (World.block_lt_of_cell? w _ hw485_4)).trans hw485_4)⟩ (fun hHeld => ?_)
                 clear hK K
                 refine norm_ (a' := ?_) ?_ ?_
                 rotate_left
                 ·show Act.put _ (some 79) _ = _
                  simp only [Act.put, List.setIfInBounds_toArray, List.set_cons_zero, List.set_cons_succ, i64_w, i32_w]
                  rfl
                 refine pu_ 63 80 z76_64 HT_.out ?_
                 refine pu_ 64 81 z76_65 HT_.out ?_
                 refine done_ (done_of HT_.out (by kernel_rfl)) ?_
                 try go_wp2
                 go_ret
                 exact ⟨by first | rfl | (simp [errW_none, errW_some] <;> rfl) | (simp only [← hji23]; first | rfl | (simp [errW_none, errW_some] <;> rfl)) | (simp [*, errW_none, errW_some] <;> rfl), by repeat (first | (with_reducible first | exact HB.out | apply below_alloc | apply eN76 | apply eD76 | refine bS76 ?_ GE475.out | refine bS76 ?_ GE479.out) | exact HB.out)⟩
              ·rw [if_neg c25] at H
               exact absurd H (by simp)
             ·rw [if_neg c24] at H
              exact absurd H (by simp)
            ·rw [if_neg c22] at H
             have c22b0 : decide (0 < x3_1) = false := decide_eq_false c22
             clear c22
             replace H := Option.bind_eq_some_iff.mp H
             obtain ⟨t487, A490, H⟩ := H
             replace H : (if t487 = true then (spec_l6Ok.l0 k1 (wrap64 (x3_1 + 1)) a0_0 a0_1 l0_2) else (some false)) = some r := H
             have A49 := Aside0.mk A490
             clear A490
             by_cases c50 : t487 = true
             ·subst c50
              have H1 : (spec_l6Ok.l0 k1 (wrap64 (x3_1 + 1)) a0_0 a0_1 l0_2) = some r := by rw [if_pos rfl] at H; exact H
              clear H
              have H := H1
              clear H1
              have H' := Aside0.mk H
              clear H
              have hcz51_0 : wr.cell? ⟨gb475, 0, none⟩ = some (.int .i64 a0_0) := (bC76 BK475.out 0).trans rfl
              have hcz51_1 : wr.cell? ⟨gb475, 1, none⟩ = some (.int .i64 a0_1) := (bC76 BK475.out 1).trans rfl
              have hcz51_2 : wr.cell? ⟨gb475, 2, none⟩ = some (.slice A0_2 l0_2.length c0_2) := (bC76 BK475.out 2).trans rfl
              have hfz51_0 := blk_frozen BK475.out 0
              have hfz51_1 := blk_frozen BK475.out 1
              have hfz51_2 := blk_frozen BK475.out 2
              have p478 : 0 ≤ (x3_1 : Int) := of_decide_eq_true nx_
              have q478 : x3_1 < (l0_2.length : Int) := of_decide_eq_true nx_
              obtain ⟨ad478, e478, hx478_0, hx478_1, hx478_2, hx478_3, hx478_4⟩ := at_T89 HR0_2.out x3_1 p478 q478
              cases e478
              replace hx478_0 := (HB.out.cell (World.block_lt_of_cell? w _ hx478_0)).trans hx478_0
              replace hx478_1 := (HB.out.cell (World.block_lt_of_cell? w _ hx478_1)).trans hx478_1
              replace hx478_2 := (HB.out.cell (World.block_lt_of_cell? w _ hx478_2)).trans hx478_2
              replace hx478_3 := (HB.out.cell (World.block_lt_of_cell? w _ hx478_3)).trans hx478_3
              replace hx478_4 := (HB.out.cell (World.block_lt_of_cell? w _ hx478_4)).trans hx478_4
              replace p478 := eq_true p478
              replace q478 := eq_true q478
              try go_wp2_with (first | ((with_reducible refine gate_dst (N := 4) rfl ?_); (try (refine gate_guard (by rfl) ?_; dsimp only)); refine box_event ?hg (N := 4) ?hd (cs := #[.int .i64 0, .int .i64 0, .int .i64 0, .int .i64 0, .int .i64 0]) (t := 89) ?hr ?_; (case hd => rfl); (case hg => rfl); (case hr => first | (go_simp; done) | (go_simp; rfl)); intro gb479 hg w52 hbox hb; have n0_ := Aside0.mk (blk_below (g := gb475) (o := .cells #[.int .i64 a0_0, .int .i64 a0_1, .slice (some ad478) l0_2.length c0_2] 54 (0, 0)) (nb_ BK475.out) hb); have n1_ := Aside0.mk (below_step (ne_ HB.out) hb); have n2_ := Aside0.mk (hbox); have n3_ := Aside0.mk ((by rw [hg]; exact (below_size (ne_ HB.out)) : w.heap.size ≤ gb479)); have n4_ := Aside0.mk ((by rw [hg]; exact (below_size (ne_ HB.out)) : w.heap.size ≤ gb479)); have n5_ := Aside0.mk ((by rw [hg]; exact Nat.ne_of_lt (blk_lt (g := gb475) (o := .cells #[.int .i64 a0_0, .int .i64 a0_1, .slice (some ad478) l0_2.length c0_2] 54 (0, 0)) (nb_ BK475.out)) : gb475 ≠ gb479)); have n6_ := Aside0.mk ((by rw [hg]; exact Nat.ne_of_gt (blk_lt (g := gb475) (o := .cells #[.int .i64 a0_0, .int .i64 a0_1, .slice (some ad478) l0_2.length c0_2] 54 (0, 0)) (nb_ BK475.out)) : gb479 ≠ gb475)); clear BK475; clear HB; have BK475 := n0_; have HB := n1_; have BK479 := n2_; have GW479 := n3_; have GE479 := n4_; have NB475_479 := n5_; have NB479_475 := n6_; clear n0_ n1_ n2_ n3_ n4_ n5_ n6_; clear hb hbox hg; have hnb53 := NB479_475.out; have hnc53 := NB475_479.out; have hcz54_0 : w52.cell? ⟨gb479, 0, none⟩ = some (.int .i64 0) := (bC76 BK479.out 0).trans rfl; have hcz54_1 : w52.cell? ⟨gb479, 1, none⟩ = some (.int .i64 0) := (bC76 BK479.out 1).trans rfl; have hcz54_2 : w52.cell? ⟨gb479, 2, none⟩ = some (.int .i64 0) := (bC76 BK479.out 2).trans rfl; have hcz54_3 : w52.cell? ⟨gb479, 3, none⟩ = some (.int .i64 0) := (bC76 BK479.out 3).trans rfl; have hcz54_4 : w52.cell? ⟨gb479, 4, none⟩ = some (.int .i64 0) := (bC76 BK479.out 4).trans rfl; have hfz54_0 := blk_frozen BK479.out 0; have hfz54_1 := blk_frozen BK479.out 1; have hfz54_2 := blk_frozen BK479.out 2; have hfz54_3 := blk_frozen BK479.out 3; have hfz54_4 := blk_frozen BK479.out 4))
              have n0_ : Aside0 ((((((w52.setCell ⟨gb479, 0, none⟩ (.int .i64 ((rd_T89 l0_2 x3_1).f0))).setCell ⟨gb479, 1, none⟩ (.int .i64 ((rd_T89 l0_2 x3_1).f1))).setCell ⟨gb479, 2, none⟩ (.int .i64 ((rd_T89 l0_2 x3_1).f2))).setCell ⟨gb479, 3, none⟩ (.int .i64 ((rd_T89 l0_2 x3_1).f3))).setCell ⟨gb479, 4, none⟩ (.int .i64 ((rd_T89 l0_2 x3_1).f4))).heap[gb475]? = some (.cells #[.int .i64 a0_0, .int .i64 a0_1, .slice (some ad478) l0_2.length c0_2] 54 (0, 0))) := ⟨by (with_reducible repeat (first | refine bN76 ?_ _ | refine bD76 ?_ | refine bA76 ?_ _)); refine blk_far ?_ NB475_479.out _; (with_reducible repeat (first | refine bN76 ?_ _ | refine bD76 ?_ | refine bA76 ?_ _)); refine blk_far ?_ NB475_479.out _; (with_reducible repeat (first | refine bN76 ?_ _ | refine bD76 ?_ | refine bA76 ?_ _)); refine blk_far ?_ NB475_479.out _; (with_reducible repeat (first | refine bN76 ?_ _ | refine bD76 ?_ | refine bA76 ?_ _)); refine blk_far ?_ NB475_479.out _; (with_reducible repeat (first | refine bN76 ?_ _ | refine bD76 ?_ | refine bA76 ?_ _)); refine blk_far ?_ NB475_479.out _; (with_reducible repeat (first | refine bN76 ?_ _ | refine bD76 ?_ | refine bA76 ?_ _)); exact BK475.out⟩
              have n1_ : Aside0 ((((((w52.setCell ⟨gb479, 0, none⟩ (.int .i64 ((rd_T89 l0_2 x3_1).f0))).setCell ⟨gb479, 1, none⟩ (.int .i64 ((rd_T89 l0_2 x3_1).f1))).setCell ⟨gb479, 2, none⟩ (.int .i64 ((rd_T89 l0_2 x3_1).f2))).setCell ⟨gb479, 3, none⟩ (.int .i64 ((rd_T89 l0_2 x3_1).f3))).setCell ⟨gb479, 4, none⟩ (.int .i64 ((rd_T89 l0_2 x3_1).f4))).heap[gb479]? = some (.cells #[.int .i64 ((rd_T89 l0_2 x3_1).f0), .int .i64 ((rd_T89 l0_2 x3_1).f1), .int .i64 ((rd_T89 l0_2 x3_1).f2), .int .i64 ((rd_T89 l0_2 x3_1).f3), .int .i64 ((rd_T89 l0_2 x3_1).f4)] 89 (0, 0))) := ⟨by (with_reducible repeat (first | refine bN76 ?_ _ | refine bD76 ?_ | refine bA76 ?_ _)); refine blk_put (cs := #[.int .i64 ((rd_T89 l0_2 x3_1).f0), .int .i64 ((rd_T89 l0_2 x3_1).f1), .int .i64 ((rd_T89 l0_2 x3_1).f2), .int .i64 ((rd_T89 l0_2 x3_1).f3), .int .i64 0]) ?_ 4 _ rfl; (with_reducible repeat (first | refine bN76 ?_ _ | refine bD76 ?_ | refine bA76 ?_ _)); refine blk_put (cs := #[.int .i64 ((rd_T89 l0_2 x3_1).f0), .int .i64 ((rd_T89 l0_2 x3_1).f1), .int .i64 ((rd_T89 l0_2 x3_1).f2), .int .i64 0, .int .i64 0]) ?_ 3 _ rfl; (with_reducible repeat (first | refine bN76 ?_ _ | refine bD76 ?_ | refine bA76 ?_ _)); refine blk_put (cs := #[.int .i64 ((rd_T89 l0_2 x3_1).f0), .int .i64 ((rd_T89 l0_2 x3_1).f1), .int .i64 0, .int .i64 0, .int .i64 0]) ?_ 2 _ rfl; (with_reducible repeat (first | refine bN76 ?_ _ | refine bD76 ?_ | refine bA76 ?_ _)); refine blk_put (cs := #[.int .i64 ((rd_T89 l0_2 x3_1).f0), .int .i64 0, .int .i64 0, .int .i64 0, .int .i64 0]) ?_ 1 _ rfl; (with_reducible repeat (first | refine bN76 ?_ _ | refine bD76 ?_ | refine bA76 ?_ _)); refine blk_put (cs := #[.int .i64 0, .int .i64 0, .int .i64 0, .int .i64 0, .int .i64 0]) ?_ 0 _ rfl; (with_reducible repeat (first | refine bN76 ?_ _ | refine bD76 ?_ | refine bA76 ?_ _)); exact BK479.out⟩
              have n2_ : Aside0 (Below w.heap.size w (((((w52.setCell ⟨gb479, 0, none⟩ (.int .i64 ((rd_T89 l0_2 x3_1).f0))).setCell ⟨gb479, 1, none⟩ (.int .i64 ((rd_T89 l0_2 x3_1).f1))).setCell ⟨gb479, 2, none⟩ (.int .i64 ((rd_T89 l0_2 x3_1).f2))).setCell ⟨gb479, 3, none⟩ (.int .i64 ((rd_T89 l0_2 x3_1).f3))).setCell ⟨gb479, 4, none⟩ (.int .i64 ((rd_T89 l0_2 x3_1).f4)))) := ⟨by repeat (first | (with_reducible first | exact HB.out | apply below_alloc | apply eN76 | apply eD76 | refine bS76 ?_ GE475.out | refine bS76 ?_ GE479.out) | exact HB.out)⟩
              (try clear BK475)
              (try clear BK479)
              (try clear HB)
              generalize (((((w52.setCell ⟨gb479, 0, none⟩ (.int .i64 ((rd_T89 l0_2 x3_1).f0))).setCell ⟨gb479, 1, none⟩ (.int .i64 ((rd_T89 l0_2 x3_1).f1))).setCell ⟨gb479, 2, none⟩ (.int .i64 ((rd_T89 l0_2 x3_1).f2))).setCell ⟨gb479, 3, none⟩ (.int .i64 ((rd_T89 l0_2 x3_1).f3))).setCell ⟨gb479, 4, none⟩ (.int .i64 ((rd_T89 l0_2 x3_1).f4))) = w55 at n0_ n1_ n2_ ⊢
              have BK475 := n0_
              have BK479 := n1_
              have HB := n2_
              clear n0_ n1_ n2_
              replace BK475 := Aside0.mk (bD76 BK475.out)
              replace BK479 := Aside0.mk (bD76 BK479.out)
              replace HB := Aside0.mk (eD76 HB.out)
              refine start_ (n := 65) (S := fun w' => w'.cell? ⟨gb479, 0, none⟩ = some (.int .i64 ((rd_T89 l0_2 x3_1).f0)) ∧ w'.cell? ⟨gb479, 1, none⟩ = some (.int .i64 ((rd_T89 l0_2 x3_1).f1)) ∧ w'.cell? ⟨gb479, 2, none⟩ = some (.int .i64 ((rd_T89 l0_2 x3_1).f2)) ∧ w'.cell? ⟨gb479, 3, none⟩ = some (.int .i64 ((rd_T89 l0_2 x3_1).f3)) ∧ w'.cell? ⟨gb479, 4, none⟩ = some (.int .i64 ((rd_T89 l0_2 x3_1).f4)) ∧ w'.cell? ⟨gb475, 0, none⟩ = some (.int .i64 a0_0) ∧ w'.cell? ⟨gb475, 1, none⟩ = some (.int .i64 a0_1) ∧ w'.cell? ⟨gb475, 2, none⟩ = some (.slice (some ad478) l0_2.length c0_2)) (ds := []) z76_0 (by kernel_rfl) rfl rfl ⟨(bC76 BK479.out 0).trans rfl, (bC76 BK479.out 1).trans rfl, (bC76 BK479.out 2).trans rfl, (bC76 BK479.out 3).trans rfl, (bC76 BK479.out 4).trans rfl, (bC76 BK475.out 0).trans rfl, (bC76 BK475.out 1).trans rfl, (bC76 BK475.out 2).trans rfl⟩ (fun hHeld => ?_); refine with_tabW spec_l6Ok.tab5 spec_l6Ok.bits5 (fun HT_ HW_ => ?_)
              generalize w55.drew = w56 at BK475 BK479 HB hHeld ⊢
              refine pu_ 0 17 z76_1 HT_.out ?_
              refine pu_ 2 19 z76_2 HT_.out ?_
              refine tk_ 1 18 z76_3 HT_.out HW_.out hHeld ?_
              refine tk_ 3 20 z76_4 HT_.out HW_.out hHeld ?_
              refine pu_ 4 21 z76_5 HT_.out ?_
              refine one_ (i := 5) (N := some 22) z76_6 rfl rfl (one_of HT_.out (by kernel_rfl)) (by decide) (fun K hK => ?_)
              refine goes_ Try.func92 (by kernel_rfl) rfl #[.int .i64 ((rd_T89 l0_2 x3_1).f0), .int .i64 0, .int .i64 (wrap64 (a0_0 - 1))] (by rfl) rfl rfl na_ ?_
              with_reducible refine (spec_l1In.calls ((rd_T89 l0_2 x3_1).f0) 0 (wrap64 (a0_0 - 1)) true _ A5.out).mono ?_
              rintro e w' ⟨rfl, ⟨nd, rfl⟩⟩
              refine ⟨_, rfl, ?_⟩
              refine hK.out _ _ ⟨(bC76 BK479.out 0).trans rfl, (bC76 BK479.out 1).trans rfl, (bC76 BK479.out 2).trans rfl, (bC76 BK479.out 3).trans rfl, (bC76 BK479.out 4).trans rfl, (bC76 BK475.out 0).trans rfl, (bC76 BK475.out 1).trans rfl, (bC76 BK475.out 2).trans rfl⟩ (fun hHeld => ?_)
              clear hK K
              refine norm_ (a' := ?_) ?_ ?_
              rotate_left
              ·show Act.put _ (some 22) _ = _
               simp only [Act.put, List.setIfInBounds_toArray, List.set_cons_zero, List.set_cons_succ, i64_w, i32_w]
               rfl
              refine pu_ 6 23 z76_7 HT_.out ?_
              refine pu_ 7 24 z76_8 HT_.out ?_
              refine pu_ 8 25 z76_9 HT_.out ?_
              refine pu_ 10 27 z76_10 HT_.out ?_
              refine tk_ 9 26 z76_11 HT_.out HW_.out hHeld ?_
              refine tk_ 11 28 z76_12 HT_.out HW_.out hHeld ?_
              refine pu_ 12 29 z76_13 HT_.out ?_
              refine one_ (i := 13) (N := some 30) z76_14 rfl rfl (one_of HT_.out (by kernel_rfl)) (by decide) (fun K hK => ?_)
              refine goes_ Try.func92 (by kernel_rfl) rfl #[.int .i64 ((rd_T89 l0_2 x3_1).f1), .int .i64 0, .int .i64 (wrap64 (a0_0 - 1))] (by rfl) rfl rfl na_ ?_
              with_reducible refine (spec_l1In.calls ((rd_T89 l0_2 x3_1).f1) 0 (wrap64 (a0_0 - 1)) true _ A7.out).mono ?_
              rintro e w' ⟨rfl, ⟨nd, rfl⟩⟩
              refine ⟨_, rfl, ?_⟩
              refine hK.out _ _ ⟨(bC76 BK479.out 0).trans rfl, (bC76 BK479.out 1).trans rfl, (bC76 BK479.out 2).trans rfl, (bC76 BK479.out 3).trans rfl, (bC76 BK479.out 4).trans rfl, (bC76 BK475.out 0).trans rfl, (bC76 BK475.out 1).trans rfl, (bC76 BK475.out 2).trans rfl⟩ (fun hHeld => ?_)
              clear hK K
              refine norm_ (a' := ?_) ?_ ?_
              rotate_left
              ·show Act.put _ (some 30) _ = _
               simp only [Act.put, List.setIfInBounds_toArray, List.set_cons_zero, List.set_cons_succ, i64_w, i32_w]
               rfl
              refine pu_ 14 31 z76_15 HT_.out ?_
              refine pu_ 15 32 z76_16 HT_.out ?_
              refine pu_ 16 33 z76_17 HT_.out ?_
              refine pu_ 17 34 z76_18 HT_.out ?_
              refine pu_ 19 36 z76_19 HT_.out ?_
              refine tk_ 18 35 z76_20 HT_.out HW_.out hHeld ?_
              refine tk_ 20 37 z76_21 HT_.out HW_.out hHeld ?_
              refine pu_ 21 38 z76_22 HT_.out ?_
              refine pu_ 22 39 z76_23 HT_.out ?_
              refine pu_ 23 40 z76_24 HT_.out ?_
              refine pu_ 24 41 z76_25 HT_.out ?_
              refine tk_ 25 42 z76_26 HT_.out HW_.out hHeld ?_
              refine one_ (i := 26) (N := some 43) z76_27 rfl rfl (one_of HT_.out (by kernel_rfl)) (by decide) (fun K hK => ?_)
              refine goes_ Try.func92 (by kernel_rfl) rfl #[.int .i64 ((rd_T89 l0_2 x3_1).f2), .int .i64 0, .int .i64 199] (by rfl) rfl rfl na_ ?_
              with_reducible refine (spec_l1In.calls ((rd_T89 l0_2 x3_1).f2) 0 199 true _ A16.out).mono ?_
              rintro e w' ⟨rfl, ⟨nd, rfl⟩⟩
              refine ⟨_, rfl, ?_⟩
              refine hK.out _ _ ⟨(bC76 BK479.out 0).trans rfl, (bC76 BK479.out 1).trans rfl, (bC76 BK479.out 2).trans rfl, (bC76 BK479.out 3).trans rfl, (bC76 BK479.out 4).trans rfl, (bC76 BK475.out 0).trans rfl, (bC76 BK475.out 1).trans rfl, (bC76 BK475.out 2).trans rfl⟩ (fun hHeld => ?_)
              clear hK K
              refine norm_ (a' := ?_) ?_ ?_
              rotate_left
              ·show Act.put _ (some 43) _ = _
               simp only [Act.put, List.setIfInBounds_toArray, List.set_cons_zero, List.set_cons_succ, i64_w, i32_w]
               rfl
              refine pu_ 27 44 z76_28 HT_.out ?_
              refine pu_ 28 45 z76_29 HT_.out ?_
              refine pu_ 29 46 z76_30 HT_.out ?_
              refine pu_ 30 47 z76_31 HT_.out ?_
              refine pu_ 32 49 z76_66 HT_.out ?_
              refine tk_ 31 48 z76_33 HT_.out HW_.out hHeld ?_
              refine tk_ 33 50 z76_34 HT_.out HW_.out hHeld ?_
              refine one_ (i := 34) (N := some 51) z76_35 rfl rfl (one_of HT_.out (by kernel_rfl)) (by decide) (fun K hK => ?_)
              refine goes_ Try.func92 (by kernel_rfl) rfl #[.int .i64 ((rd_T89 l0_2 x3_1).f3), .int .i64 ((rd_T89 l0_2 x3_1).f2), .int .i64 199] (by rfl) rfl rfl na_ ?_
              with_reducible refine (spec_l1In.calls ((rd_T89 l0_2 x3_1).f3) ((rd_T89 l0_2 x3_1).f2) 199 true _ A18.out).mono ?_
              rintro e w' ⟨rfl, ⟨nd, rfl⟩⟩
              refine ⟨_, rfl, ?_⟩
              refine hK.out _ _ ⟨(bC76 BK479.out 0).trans rfl, (bC76 BK479.out 1).trans rfl, (bC76 BK479.out 2).trans rfl, (bC76 BK479.out 3).trans rfl, (bC76 BK479.out 4).trans rfl, (bC76 BK475.out 0).trans rfl, (bC76 BK475.out 1).trans rfl, (bC76 BK475.out 2).trans rfl⟩ (fun hHeld => ?_)
              clear hK K
              refine norm_ (a' := ?_) ?_ ?_
              rotate_left
              ·show Act.put _ (some 51) _ = _
               simp only [Act.put, List.setIfInBounds_toArray, List.set_cons_zero, List.set_cons_succ, i64_w, i32_w]
               rfl
              refine pu_ 35 52 z76_36 HT_.out ?_
              refine pu_ 36 53 z76_37 HT_.out ?_
              refine pu_ 37 54 z76_38 HT_.out ?_
              refine pu_ 38 55 z76_39 HT_.out ?_
              refine tk_ 39 56 z76_40 HT_.out HW_.out hHeld ?_
              refine one_ (i := 40) (N := some 57) z76_41 rfl rfl (one_of HT_.out (by kernel_rfl)) (by decide) (fun K hK => ?_)
              refine goes_ Try.func92 (by kernel_rfl) rfl #[.int .i64 ((rd_T89 l0_2 x3_1).f4), .int .i64 0, .int .i64 5] (by rfl) rfl rfl na_ ?_
              with_reducible refine (spec_l1In.calls ((rd_T89 l0_2 x3_1).f4) 0 5 true _ A20.out).mono ?_
              rintro e w' ⟨rfl, ⟨nd, rfl⟩⟩
              refine ⟨_, rfl, ?_⟩
              refine hK.out _ _ ⟨(bC76 BK479.out 0).trans rfl, (bC76 BK479.out 1).trans rfl, (bC76 BK479.out 2).trans rfl, (bC76 BK479.out 3).trans rfl, (bC76 BK479.out 4).trans rfl, (bC76 BK475.out 0).trans rfl, (bC76 BK475.out 1).trans rfl, (bC76 BK475.out 2).trans rfl⟩ (fun hHeld => ?_)
              clear hK K
              refine norm_ (a' := ?_) ?_ ?_
              rotate_left
              ·show Act.put _ (some 57) _ = _
               simp only [Act.put, List.setIfInBounds_toArray, List.set_cons_zero, List.set_cons_succ, i64_w, i32_w]
               rfl
              refine pu_ 41 58 z76_42 HT_.out ?_
              refine pu_ 42 59 z76_43 HT_.out ?_
              refine pu_ 43 60 z76_44 HT_.out ?_
              refine pu_ 44 61 z76_45 HT_.out ?_
              refine pu_ 45 62 z76_46 HT_.out ?_
              refine pu_ 46 63 z76_47 HT_.out ?_
              refine un_ 47 64 z76_48 HT_.out ?_
              refine un_ 48 65 z76_49 HT_.out ?_
              refine un_ 49 66 z76_50 HT_.out ?_
              refine un_ 50 67 z76_51 HT_.out ?_
              refine un_ 51 68 z76_52 HT_.out ?_
              refine un_ 52 69 z76_53 HT_.out ?_
              refine un_ 53 70 z76_54 HT_.out ?_
              refine un_ 54 71 z76_55 HT_.out ?_
              refine un_ 55 72 z76_56 HT_.out ?_
              refine un_ 56 73 z76_57 HT_.out ?_
              refine pu_ 57 74 z76_58 HT_.out ?_
              refine pu_ 58 75 z76_59 HT_.out ?_
              refine pu_ 59 76 z76_60 HT_.out ?_
              refine pu_ 61 78 z76_71 HT_.out ?_
              refine tk_ 60 77 z76_62 HT_.out HW_.out hHeld ?_
              refine one_ (i := 62) (N := some 79) z76_63 rfl rfl (one_of HT_.out (by kernel_rfl)) (by decide) (fun K hK => ?_)
              refine goes_ Try.func100 (by kernel_rfl) rfl #[.agg #[.int .i64 a0_0, .int .i64 a0_1, .slice (some ad478) l0_2.length c0_2], .int .i64 x3_1] (by rfl) rfl rfl na_ ?_
              with_reducible refine (spec_l6Goes.calls k1 a0_0 a0_1 _ _ l0_2 x3_1 true _ ?side1 ?side2 A49.out).mono ?_
              (case side1 => exact nc_ (Kd.C_below HR0_2.out (ne_ HB.out)))
              (case side2 => exact HC0_2.out)
              rintro e w57 ⟨rfl, hb⟩
              refine ⟨_, rfl, ?_⟩
              replace BK475 := Aside0.mk (blk_below (g := gb475) (o := .cells #[.int .i64 a0_0, .int .i64 a0_1, .slice (some ad478) l0_2.length c0_2] 54 (0, 0)) (nb_ BK475.out) hb)
              replace BK479 := Aside0.mk (blk_below (g := gb479) (o := .cells #[.int .i64 ((rd_T89 l0_2 x3_1).f0), .int .i64 ((rd_T89 l0_2 x3_1).f1), .int .i64 ((rd_T89 l0_2 x3_1).f2), .int .i64 ((rd_T89 l0_2 x3_1).f3), .int .i64 ((rd_T89 l0_2 x3_1).f4)] 89 (0, 0)) (nb_ BK479.out) hb)
              replace HB := Aside0.mk (below_step (ne_ HB.out) hb)
              (try clear hb)
              (try clear hb2)
              (try clear hk)
              (try clear hi)
              refine hK.out _ _ ⟨(bC76 BK479.out 0).trans rfl, (bC76 BK479.out 1).trans rfl, (bC76 BK479.out 2).trans rfl, (bC76 BK479.out 3).trans rfl, (bC76 BK479.out 4).trans rfl, (bC76 BK475.out 0).trans rfl, (bC76 BK475.out 1).trans rfl, (bC76 BK475.out 2).trans rfl⟩ (fun hHeld => ?_)
              clear hK K
              refine norm_ (a' := ?_) ?_ ?_
              rotate_left
              ·show Act.put _ (some 79) _ = _
               simp only [Act.put, List.setIfInBounds_toArray, List.set_cons_zero, List.set_cons_succ, i64_w, i32_w]
               rfl
              refine pu_ 63 80 z76_64 HT_.out ?_
              refine pu_ 64 81 z76_65 HT_.out ?_
              refine done_ (done_of HT_.out (by kernel_rfl)) ?_
              try go_wp2
              go_roundg k1
              case measure => have := HK1.out; omega
              case rel => exact ⟨(wrap64 (x3_1 + 1)), ns_, H', ⟨by have := HK1.out; omega⟩, ⟨by (with_reducible repeat (first | refine bN76 ?_ _ | refine bD76 ?_ | refine bA76 ?_ _)); exact BK475.out⟩, ⟨by repeat (first | (with_reducible first | exact HB.out | apply below_alloc | apply eN76 | apply eD76 | refine bS76 ?_ GE475.out | refine bS76 ?_ GE479.out) | exact HB.out)⟩⟩
             ·replace c50 := Bool.eq_false_iff.mpr c50
              subst c50
              have H1 : (some false) = some r := by rw [if_neg (show ¬ (false = true) by decide)] at H; exact H
              clear H
              have H := H1
              clear H1
              obtain rfl := Option.some.inj H
              have hcz58_0 : wr.cell? ⟨gb475, 0, none⟩ = some (.int .i64 a0_0) := (bC76 BK475.out 0).trans rfl
              have hcz58_1 : wr.cell? ⟨gb475, 1, none⟩ = some (.int .i64 a0_1) := (bC76 BK475.out 1).trans rfl
              have hcz58_2 : wr.cell? ⟨gb475, 2, none⟩ = some (.slice A0_2 l0_2.length c0_2) := (bC76 BK475.out 2).trans rfl
              have hfz58_0 := blk_frozen BK475.out 0
              have hfz58_1 := blk_frozen BK475.out 1
              have hfz58_2 := blk_frozen BK475.out 2
              have p478 : 0 ≤ (x3_1 : Int) := of_decide_eq_true nx_
              have q478 : x3_1 < (l0_2.length : Int) := of_decide_eq_true nx_
              obtain ⟨ad478, e478, hx478_0, hx478_1, hx478_2, hx478_3, hx478_4⟩ := at_T89 HR0_2.out x3_1 p478 q478
              cases e478
              replace hx478_0 := (HB.out.cell (World.block_lt_of_cell? w _ hx478_0)).trans hx478_0
              replace hx478_1 := (HB.out.cell (World.block_lt_of_cell? w _ hx478_1)).trans hx478_1
              replace hx478_2 := (HB.out.cell (World.block_lt_of_cell? w _ hx478_2)).trans hx478_2
              replace hx478_3 := (HB.out.cell (World.block_lt_of_cell? w _ hx478_3)).trans hx478_3
              replace hx478_4 := (HB.out.cell (World.block_lt_of_cell? w _ hx478_4)).trans hx478_4
              replace p478 := eq_true p478
              replace q478 := eq_true q478
              try go_wp2_with (first | ((with_reducible refine gate_dst (N := 4) rfl ?_); (try (refine gate_guard (by rfl) ?_; dsimp only)); refine box_event ?hg (N := 4) ?hd (cs := #[.int .i64 0, .int .i64 0, .int .i64 0, .int .i64 0, .int .i64 0]) (t := 89) ?hr ?_; (case hd => rfl); (case hg => rfl); (case hr => first | (go_simp; done) | (go_simp; rfl)); intro gb479 hg w59 hbox hb; have n0_ := Aside0.mk (blk_below (g := gb475) (o := .cells #[.int .i64 a0_0, .int .i64 a0_1, .slice (some ad478) l0_2.length c0_2] 54 (0, 0)) (nb_ BK475.out) hb); have n1_ := Aside0.mk (below_step (ne_ HB.out) hb); have n2_ := Aside0.mk (hbox); have n3_ := Aside0.mk ((by rw [hg]; exact (below_size (ne_ HB.out)) : w.heap.size ≤ gb479)); have n4_ := Aside0.mk ((by rw [hg]; exact (below_size (ne_ HB.out)) : w.heap.size ≤ gb479)); have n5_ := Aside0.mk ((by rw [hg]; exact Nat.ne_of_lt (blk_lt (g := gb475) (o := .cells #[.int .i64 a0_0, .int .i64 a0_1, .slice (some ad478) l0_2.length c0_2] 54 (0, 0)) (nb_ BK475.out)) : gb475 ≠ gb479)); have n6_ := Aside0.mk ((by rw [hg]; exact Nat.ne_of_gt (blk_lt (g := gb475) (o := .cells #[.int .i64 a0_0, .int .i64 a0_1, .slice (some ad478) l0_2.length c0_2] 54 (0, 0)) (nb_ BK475.out)) : gb479 ≠ gb475)); clear BK475; clear HB; have BK475 := n0_; have HB := n1_; have BK479 := n2_; have GW479 := n3_; have GE479 := n4_; have NB475_479 := n5_; have NB479_475 := n6_; clear n0_ n1_ n2_ n3_ n4_ n5_ n6_; clear hb hbox hg; have hnb60 := NB479_475.out; have hnc60 := NB475_479.out; have hcz61_0 : w59.cell? ⟨gb479, 0, none⟩ = some (.int .i64 0) := (bC76 BK479.out 0).trans rfl; have hcz61_1 : w59.cell? ⟨gb479, 1, none⟩ = some (.int .i64 0) := (bC76 BK479.out 1).trans rfl; have hcz61_2 : w59.cell? ⟨gb479, 2, none⟩ = some (.int .i64 0) := (bC76 BK479.out 2).trans rfl; have hcz61_3 : w59.cell? ⟨gb479, 3, none⟩ = some (.int .i64 0) := (bC76 BK479.out 3).trans rfl; have hcz61_4 : w59.cell? ⟨gb479, 4, none⟩ = some (.int .i64 0) := (bC76 BK479.out 4).trans rfl; have hfz61_0 := blk_frozen BK479.out 0; have hfz61_1 := blk_frozen BK479.out 1; have hfz61_2 := blk_frozen BK479.out 2; have hfz61_3 := blk_frozen BK479.out 3; have hfz61_4 := blk_frozen BK479.out 4))
              have n0_ : Aside0 ((((((w59.setCell ⟨gb479, 0, none⟩ (.int .i64 ((rd_T89 l0_2 x3_1).f0))).setCell ⟨gb479, 1, none⟩ (.int .i64 ((rd_T89 l0_2 x3_1).f1))).setCell ⟨gb479, 2, none⟩ (.int .i64 ((rd_T89 l0_2 x3_1).f2))).setCell ⟨gb479, 3, none⟩ (.int .i64 ((rd_T89 l0_2 x3_1).f3))).setCell ⟨gb479, 4, none⟩ (.int .i64 ((rd_T89 l0_2 x3_1).f4))).heap[gb475]? = some (.cells #[.int .i64 a0_0, .int .i64 a0_1, .slice (some ad478) l0_2.length c0_2] 54 (0, 0))) := ⟨by (with_reducible repeat (first | refine bN76 ?_ _ | refine bD76 ?_ | refine bA76 ?_ _)); refine blk_far ?_ NB475_479.out _; (with_reducible repeat (first | refine bN76 ?_ _ | refine bD76 ?_ | refine bA76 ?_ _)); refine blk_far ?_ NB475_479.out _; (with_reducible repeat (first | refine bN76 ?_ _ | refine bD76 ?_ | refine bA76 ?_ _)); refine blk_far ?_ NB475_479.out _; (with_reducible repeat (first | refine bN76 ?_ _ | refine bD76 ?_ | refine bA76 ?_ _)); refine blk_far ?_ NB475_479.out _; (with_reducible repeat (first | refine bN76 ?_ _ | refine bD76 ?_ | refine bA76 ?_ _)); refine blk_far ?_ NB475_479.out _; (with_reducible repeat (first | refine bN76 ?_ _ | refine bD76 ?_ | refine bA76 ?_ _)); exact BK475.out⟩
              have n1_ : Aside0 ((((((w59.setCell ⟨gb479, 0, none⟩ (.int .i64 ((rd_T89 l0_2 x3_1).f0))).setCell ⟨gb479, 1, none⟩ (.int .i64 ((rd_T89 l0_2 x3_1).f1))).setCell ⟨gb479, 2, none⟩ (.int .i64 ((rd_T89 l0_2 x3_1).f2))).setCell ⟨gb479, 3, none⟩ (.int .i64 ((rd_T89 l0_2 x3_1).f3))).setCell ⟨gb479, 4, none⟩ (.int .i64 ((rd_T89 l0_2 x3_1).f4))).heap[gb479]? = some (.cells #[.int .i64 ((rd_T89 l0_2 x3_1).f0), .int .i64 ((rd_T89 l0_2 x3_1).f1), .int .i64 ((rd_T89 l0_2 x3_1).f2), .int .i64 ((rd_T89 l0_2 x3_1).f3), .int .i64 ((rd_T89 l0_2 x3_1).f4)] 89 (0, 0))) := ⟨by (with_reducible repeat (first | refine bN76 ?_ _ | refine bD76 ?_ | refine bA76 ?_ _)); refine blk_put (cs := #[.int .i64 ((rd_T89 l0_2 x3_1).f0), .int .i64 ((rd_T89 l0_2 x3_1).f1), .int .i64 ((rd_T89 l0_2 x3_1).f2), .int .i64 ((rd_T89 l0_2 x3_1).f3), .int .i64 0]) ?_ 4 _ rfl; (with_reducible repeat (first | refine bN76 ?_ _ | refine bD76 ?_ | refine bA76 ?_ _)); refine blk_put (cs := #[.int .i64 ((rd_T89 l0_2 x3_1).f0), .int .i64 ((rd_T89 l0_2 x3_1).f1), .int .i64 ((rd_T89 l0_2 x3_1).f2), .int .i64 0, .int .i64 0]) ?_ 3 _ rfl; (with_reducible repeat (first | refine bN76 ?_ _ | refine bD76 ?_ | refine bA76 ?_ _)); refine blk_put (cs := #[.int .i64 ((rd_T89 l0_2 x3_1).f0), .int .i64 ((rd_T89 l0_2 x3_1).f1), .int .i64 0, .int .i64 0, .int .i64 0]) ?_ 2 _ rfl; (with_reducible repeat (first | refine bN76 ?_ _ | refine bD76 ?_ | refine bA76 ?_ _)); refine blk_put (cs := #[.int .i64 ((rd_T89 l0_2 x3_1).f0), .int .i64 0, .int .i64 0, .int .i64 0, .int .i64 0]) ?_ 1 _ rfl; (with_reducible repeat (first | refine bN76 ?_ _ | refine bD76 ?_ | refine bA76 ?_ _)); refine blk_put (cs := #[.int .i64 0, .int .i64 0, .int .i64 0, .int .i64 0, .int .i64 0]) ?_ 0 _ rfl; (with_reducible repeat (first | refine bN76 ?_ _ | refine bD76 ?_ | refine bA76 ?_ _)); exact BK479.out⟩
              have n2_ : Aside0 (Below w.heap.size w (((((w59.setCell ⟨gb479, 0, none⟩ (.int .i64 ((rd_T89 l0_2 x3_1).f0))).setCell ⟨gb479, 1, none⟩ (.int .i64 ((rd_T89 l0_2 x3_1).f1))).setCell ⟨gb479, 2, none⟩ (.int .i64 ((rd_T89 l0_2 x3_1).f2))).setCell ⟨gb479, 3, none⟩ (.int .i64 ((rd_T89 l0_2 x3_1).f3))).setCell ⟨gb479, 4, none⟩ (.int .i64 ((rd_T89 l0_2 x3_1).f4)))) := ⟨by repeat (first | (with_reducible first | exact HB.out | apply below_alloc | apply eN76 | apply eD76 | refine bS76 ?_ GE475.out | refine bS76 ?_ GE479.out) | exact HB.out)⟩
              (try clear BK475)
              (try clear BK479)
              (try clear HB)
              generalize (((((w59.setCell ⟨gb479, 0, none⟩ (.int .i64 ((rd_T89 l0_2 x3_1).f0))).setCell ⟨gb479, 1, none⟩ (.int .i64 ((rd_T89 l0_2 x3_1).f1))).setCell ⟨gb479, 2, none⟩ (.int .i64 ((rd_T89 l0_2 x3_1).f2))).setCell ⟨gb479, 3, none⟩ (.int .i64 ((rd_T89 l0_2 x3_1).f3))).setCell ⟨gb479, 4, none⟩ (.int .i64 ((rd_T89 l0_2 x3_1).f4))) = w62 at n0_ n1_ n2_ ⊢
              have BK475 := n0_
              have BK479 := n1_
              have HB := n2_
              clear n0_ n1_ n2_
              replace BK475 := Aside0.mk (bD76 BK475.out)
              replace BK479 := Aside0.mk (bD76 BK479.out)
              replace HB := Aside0.mk (eD76 HB.out)
              refine start_ (n := 65) (S := fun w' => w'.cell? ⟨gb479, 0, none⟩ = some (.int .i64 ((rd_T89 l0_2 x3_1).f0)) ∧ w'.cell? ⟨gb479, 1, none⟩ = some (.int .i64 ((rd_T89 l0_2 x3_1).f1)) ∧ w'.cell? ⟨gb479, 2, none⟩ = some (.int .i64 ((rd_T89 l0_2 x3_1).f2)) ∧ w'.cell? ⟨gb479, 3, none⟩ = some (.int .i64 ((rd_T89 l0_2 x3_1).f3)) ∧ w'.cell? ⟨gb479, 4, none⟩ = some (.int .i64 ((rd_T89 l0_2 x3_1).f4)) ∧ w'.cell? ⟨gb475, 0, none⟩ = some (.int .i64 a0_0) ∧ w'.cell? ⟨gb475, 1, none⟩ = some (.int .i64 a0_1) ∧ w'.cell? ⟨gb475, 2, none⟩ = some (.slice (some ad478) l0_2.length c0_2)) (ds := []) z76_0 (by kernel_rfl) rfl rfl ⟨(bC76 BK479.out 0).trans rfl, (bC76 BK479.out 1).trans rfl, (bC76 BK479.out 2).trans rfl, (bC76 BK479.out 3).trans rfl, (bC76 BK479.out 4).trans rfl, (bC76 BK475.out 0).trans rfl, (bC76 BK475.out 1).trans rfl, (bC76 BK475.out 2).trans rfl⟩ (fun hHeld => ?_); refine with_tabW spec_l6Ok.tab5 spec_l6Ok.bits5 (fun HT_ HW_ => ?_)
              generalize w62.drew = w63 at BK475 BK479 HB hHeld ⊢
              refine pu_ 0 17 z76_1 HT_.out ?_
              refine pu_ 2 19 z76_2 HT_.out ?_
              refine tk_ 1 18 z76_3 HT_.out HW_.out hHeld ?_
              refine tk_ 3 20 z76_4 HT_.out HW_.out hHeld ?_
              refine pu_ 4 21 z76_5 HT_.out ?_
              refine one_ (i := 5) (N := some 22) z76_6 rfl rfl (one_of HT_.out (by kernel_rfl)) (by decide) (fun K hK => ?_)
              refine goes_ Try.func92 (by kernel_rfl) rfl #[.int .i64 ((rd_T89 l0_2 x3_1).f0), .int .i64 0, .int .i64 (wrap64 (a0_0 - 1))] (by rfl) rfl rfl na_ ?_
              with_reducible refine (spec_l1In.calls ((rd_T89 l0_2 x3_1).f0) 0 (wrap64 (a0_0 - 1)) true _ A5.out).mono ?_
              rintro e w' ⟨rfl, ⟨nd, rfl⟩⟩
              refine ⟨_, rfl, ?_⟩
              refine hK.out _ _ ⟨(bC76 BK479.out 0).trans rfl, (bC76 BK479.out 1).trans rfl, (bC76 BK479.out 2).trans rfl, (bC76 BK479.out 3).trans rfl, (bC76 BK479.out 4).trans rfl, (bC76 BK475.out 0).trans rfl, (bC76 BK475.out 1).trans rfl, (bC76 BK475.out 2).trans rfl⟩ (fun hHeld => ?_)
              clear hK K
              refine norm_ (a' := ?_) ?_ ?_
              rotate_left
              ·show Act.put _ (some 22) _ = _
               simp only [Act.put, List.setIfInBounds_toArray, List.set_cons_zero, List.set_cons_succ, i64_w, i32_w]
               rfl
              refine pu_ 6 23 z76_7 HT_.out ?_
              refine pu_ 7 24 z76_8 HT_.out ?_
              refine pu_ 8 25 z76_9 HT_.out ?_
              refine pu_ 10 27 z76_10 HT_.out ?_
              refine tk_ 9 26 z76_11 HT_.out HW_.out hHeld ?_
              refine tk_ 11 28 z76_12 HT_.out HW_.out hHeld ?_
              refine pu_ 12 29 z76_13 HT_.out ?_
              refine one_ (i := 13) (N := some 30) z76_14 rfl rfl (one_of HT_.out (by kernel_rfl)) (by decide) (fun K hK => ?_)
              refine goes_ Try.func92 (by kernel_rfl) rfl #[.int .i64 ((rd_T89 l0_2 x3_1).f1), .int .i64 0, .int .i64 (wrap64 (a0_0 - 1))] (by rfl) rfl rfl na_ ?_
              with_reducible refine (spec_l1In.calls ((rd_T89 l0_2 x3_1).f1) 0 (wrap64 (a0_0 - 1)) true _ A7.out).mono ?_
              rintro e w' ⟨rfl, ⟨nd, rfl⟩⟩
              refine ⟨_, rfl, ?_⟩
              refine hK.out _ _ ⟨(bC76 BK479.out 0).trans rfl, (bC76 BK479.out 1).trans rfl, (bC76 BK479.out 2).trans rfl, (bC76 BK479.out 3).trans rfl, (bC76 BK479.out 4).trans rfl, (bC76 BK475.out 0).trans rfl, (bC76 BK475.out 1).trans rfl, (bC76 BK475.out 2).trans rfl⟩ (fun hHeld => ?_)
              clear hK K
              refine norm_ (a' := ?_) ?_ ?_
              rotate_left
              ·show Act.put _ (some 30) _ = _
               simp only [Act.put, List.setIfInBounds_toArray, List.set_cons_zero, List.set_cons_succ, i64_w, i32_w]
               rfl
              refine pu_ 14 31 z76_15 HT_.out ?_
              refine pu_ 15 32 z76_16 HT_.out ?_
              refine pu_ 16 33 z76_17 HT_.out ?_
              refine pu_ 17 34 z76_18 HT_.out ?_
              refine pu_ 19 36 z76_19 HT_.out ?_
              refine tk_ 18 35 z76_20 HT_.out HW_.out hHeld ?_
              refine tk_ 20 37 z76_21 HT_.out HW_.out hHeld ?_
              refine pu_ 21 38 z76_22 HT_.out ?_
              refine pu_ 22 39 z76_23 HT_.out ?_
              refine pu_ 23 40 z76_24 HT_.out ?_
              refine pu_ 24 41 z76_25 HT_.out ?_
              refine tk_ 25 42 z76_26 HT_.out HW_.out hHeld ?_
              refine one_ (i := 26) (N := some 43) z76_27 rfl rfl (one_of HT_.out (by kernel_rfl)) (by decide) (fun K hK => ?_)
              refine goes_ Try.func92 (by kernel_rfl) rfl #[.int .i64 ((rd_T89 l0_2 x3_1).f2), .int .i64 0, .int .i64 199] (by rfl) rfl rfl na_ ?_
              with_reducible refine (spec_l1In.calls ((rd_T89 l0_2 x3_1).f2) 0 199 true _ A16.out).mono ?_
              rintro e w' ⟨rfl, ⟨nd, rfl⟩⟩
              refine ⟨_, rfl, ?_⟩
              refine hK.out _ _ ⟨(bC76 BK479.out 0).trans rfl, (bC76 BK479.out 1).trans rfl, (bC76 BK479.out 2).trans rfl, (bC76 BK479.out 3).trans rfl, (bC76 BK479.out 4).trans rfl, (bC76 BK475.out 0).trans rfl, (bC76 BK475.out 1).trans rfl, (bC76 BK475.out 2).trans rfl⟩ (fun hHeld => ?_)
              clear hK K
              refine norm_ (a' := ?_) ?_ ?_
              rotate_left
              ·show Act.put _ (some 43) _ = _
               simp only [Act.put, List.setIfInBounds_toArray, List.set_cons_zero, List.set_cons_succ, i64_w, i32_w]
               rfl
              refine pu_ 27 44 z76_28 HT_.out ?_
              refine pu_ 28 45 z76_29 HT_.out ?_
              refine pu_ 29 46 z76_30 HT_.out ?_
              refine pu_ 30 47 z76_31 HT_.out ?_
              refine pu_ 32 49 z76_66 HT_.out ?_
              refine tk_ 31 48 z76_33 HT_.out HW_.out hHeld ?_
              refine tk_ 33 50 z76_34 HT_.out HW_.out hHeld ?_
              refine one_ (i := 34) (N := some 51) z76_35 rfl rfl (one_of HT_.out (by kernel_rfl)) (by decide) (fun K hK => ?_)
              refine goes_ Try.func92 (by kernel_rfl) rfl #[.int .i64 ((rd_T89 l0_2 x3_1).f3), .int .i64 ((rd_T89 l0_2 x3_1).f2), .int .i64 199] (by rfl) rfl rfl na_ ?_
              with_reducible refine (spec_l1In.calls ((rd_T89 l0_2 x3_1).f3) ((rd_T89 l0_2 x3_1).f2) 199 true _ A18.out).mono ?_
              rintro e w' ⟨rfl, ⟨nd, rfl⟩⟩
              refine ⟨_, rfl, ?_⟩
              refine hK.out _ _ ⟨(bC76 BK479.out 0).trans rfl, (bC76 BK479.out 1).trans rfl, (bC76 BK479.out 2).trans rfl, (bC76 BK479.out 3).trans rfl, (bC76 BK479.out 4).trans rfl, (bC76 BK475.out 0).trans rfl, (bC76 BK475.out 1).trans rfl, (bC76 BK475.out 2).trans rfl⟩ (fun hHeld => ?_)
              clear hK K
              refine norm_ (a' := ?_) ?_ ?_
              rotate_left
              ·show Act.put _ (some 51) _ = _
               simp only [Act.put, List.setIfInBounds_toArray, List.set_cons_zero, List.set_cons_succ, i64_w, i32_w]
               rfl
              refine pu_ 35 52 z76_36 HT_.out ?_
              refine pu_ 36 53 z76_37 HT_.out ?_
              refine pu_ 37 54 z76_38 HT_.out ?_
              refine pu_ 38 55 z76_39 HT_.out ?_
              refine tk_ 39 56 z76_40 HT_.out HW_.out hHeld ?_
              refine one_ (i := 40) (N := some 57) z76_41 rfl rfl (one_of HT_.out (by kernel_rfl)) (by decide) (fun K hK => ?_)
              refine goes_ Try.func92 (by kernel_rfl) rfl #[.int .i64 ((rd_T89 l0_2 x3_1).f4), .int .i64 0, .int .i64 5] (by rfl) rfl rfl na_ ?_
              with_reducible refine (spec_l1In.calls ((rd_T89 l0_2 x3_1).f4) 0 5 true _ A20.out).mono ?_
              rintro e w' ⟨rfl, ⟨nd, rfl⟩⟩
              refine ⟨_, rfl, ?_⟩
              refine hK.out _ _ ⟨(bC76 BK479.out 0).trans rfl, (bC76 BK479.out 1).trans rfl, (bC76 BK479.out 2).trans rfl, (bC76 BK479.out 3).trans rfl, (bC76 BK479.out 4).trans rfl, (bC76 BK475.out 0).trans rfl, (bC76 BK475.out 1).trans rfl, (bC76 BK475.out 2).trans rfl⟩ (fun hHeld => ?_)
              clear hK K
              refine norm_ (a' := ?_) ?_ ?_
              rotate_left
              ·show Act.put _ (some 57) _ = _
               simp only [Act.put, List.setIfInBounds_toArray, List.set_cons_zero, List.set_cons_succ, i64_w, i32_w]
               rfl
              refine pu_ 41 58 z76_42 HT_.out ?_
              refine pu_ 42 59 z76_43 HT_.out ?_
              refine pu_ 43 60 z76_44 HT_.out ?_
              refine pu_ 44 61 z76_45 HT_.out ?_
              refine pu_ 45 62 z76_46 HT_.out ?_
              refine pu_ 46 63 z76_47 HT_.out ?_
              refine un_ 47 64 z76_48 HT_.out ?_
              refine un_ 48 65 z76_49 HT_.out ?_
              refine un_ 49 66 z76_50 HT_.out ?_
              refine un_ 50 67 z76_51 HT_.out ?_
              refine un_ 51 68 z76_52 HT_.out ?_
              refine un_ 52 69 z76_53 HT_.out ?_
              refine un_ 53 70 z76_54 HT_.out ?_
              refine un_ 54 71 z76_55 HT_.out ?_
              refine un_ 55 72 z76_56 HT_.out ?_
              refine un_ 56 73 z76_57 HT_.out ?_
              refine pu_ 57 74 z76_58 HT_.out ?_
              refine pu_ 58 75 z76_59 HT_.out ?_
              refine pu_ 59 76 z76_60 HT_.out ?_
              refine pu_ 61 78 z76_71 HT_.out ?_
              refine tk_ 60 77 z76_62 HT_.out HW_.out hHeld ?_
              refine one_ (i := 62) (N := some 79) z76_63 rfl rfl (one_of HT_.out (by kernel_rfl)) (by decide) (fun K hK => ?_)
              refine goes_ Try.func100 (by kernel_rfl) rfl #[.agg #[.int .i64 a0_0, .int .i64 a0_1, .slice (some ad478) l0_2.length c0_2], .int .i64 x3_1] (by rfl) rfl rfl na_ ?_
              with_reducible refine (spec_l6Goes.calls k1 a0_0 a0_1 _ _ l0_2 x3_1 false _ ?side1 ?side2 A49.out).mono ?_
              (case side1 => exact nc_ (Kd.C_below HR0_2.out (ne_ HB.out)))
              (case side2 => exact HC0_2.out)
              rintro e w64 ⟨rfl, hb⟩
              refine ⟨_, rfl, ?_⟩
              replace BK475 := Aside0.mk (blk_below (g := gb475) (o := .cells #[.int .i64 a0_0, .int .i64 a0_1, .slice (some ad478) l0_2.length c0_2] 54 (0, 0)) (nb_ BK475.out) hb)
              replace BK479 := Aside0.mk (blk_below (g := gb479) (o := .cells #[.int .i64 ((rd_T89 l0_2 x3_1).f0), .int .i64 ((rd_T89 l0_2 x3_1).f1), .int .i64 ((rd_T89 l0_2 x3_1).f2), .int .i64 ((rd_T89 l0_2 x3_1).f3), .int .i64 ((rd_T89 l0_2 x3_1).f4)] 89 (0, 0)) (nb_ BK479.out) hb)
              replace HB := Aside0.mk (below_step (ne_ HB.out) hb)
              (try clear hb)
              (try clear hb2)
              (try clear hk)
              (try clear hi)
              refine hK.out _ _ ⟨(bC76 BK479.out 0).trans rfl, (bC76 BK479.out 1).trans rfl, (bC76 BK479.out 2).trans rfl, (bC76 BK479.out 3).trans rfl, (bC76 BK479.out 4).trans rfl, (bC76 BK475.out 0).trans rfl, (bC76 BK475.out 1).trans rfl, (bC76 BK475.out 2).trans rfl⟩ (fun hHeld => ?_)
              clear hK K
              refine norm_ (a' := ?_) ?_ ?_
              rotate_left
              ·show Act.put _ (some 79) _ = _
               simp only [Act.put, List.setIfInBounds_toArray, List.set_cons_zero, List.set_cons_succ, i64_w, i32_w]
               rfl
              refine pu_ 63 80 z76_64 HT_.out ?_
              refine pu_ 64 81 z76_65 HT_.out ?_
              refine done_ (done_of HT_.out (by kernel_rfl)) ?_
              try go_wp2
              go_ret
              exact ⟨by first | rfl | (simp [errW_none, errW_some] <;> rfl) | (simp [*, errW_none, errW_some] <;> rfl), by repeat (first | (with_reducible first | exact HB.out | apply below_alloc | apply eN76 | apply eD76 | refine bS76 ?_ GE475.out | refine bS76 ?_ GE479.out) | exact HB.out)⟩
           ·replace c21 := Bool.eq_false_iff.mpr c21
            subst c21
            have H1 : (some false) = some r := by rw [if_neg (show ¬ (false = true) by decide)] at H; exact H
            clear H
            have H := H1
            clear H1
            obtain rfl := Option.some.inj H
            have hcz65_0 : wr.cell? ⟨gb475, 0, none⟩ = some (.int .i64 a0_0) := (bC76 BK475.out 0).trans rfl
            have hcz65_1 : wr.cell? ⟨gb475, 1, none⟩ = some (.int .i64 a0_1) := (bC76 BK475.out 1).trans rfl
            have hcz65_2 : wr.cell? ⟨gb475, 2, none⟩ = some (.slice A0_2 l0_2.length c0_2) := (bC76 BK475.out 2).trans rfl
            have hfz65_0 := blk_frozen BK475.out 0
            have hfz65_1 := blk_frozen BK475.out 1
            have hfz65_2 := blk_frozen BK475.out 2
            have p478 : 0 ≤ (x3_1 : Int) := of_decide_eq_true nx_
            have q478 : x3_1 < (l0_2.length : Int) := of_decide_eq_true nx_
            obtain ⟨ad478, e478, hx478_0, hx478_1, hx478_2, hx478_3, hx478_4⟩ := at_T89 HR0_2.out x3_1 p478 q478
            cases e478
            replace hx478_0 := (HB.out.cell (World.block_lt_of_cell? w _ hx478_0)).trans hx478_0
            replace hx478_1 := (HB.out.cell (World.block_lt_of_cell? w _ hx478_1)).trans hx478_1
            replace hx478_2 := (HB.out.cell (World.block_lt_of_cell? w _ hx478_2)).trans hx478_2
            replace hx478_3 := (HB.out.cell (World.block_lt_of_cell? w _ hx478_3)).trans hx478_3
            replace hx478_4 := (HB.out.cell (World.block_lt_of_cell? w _ hx478_4)).trans hx478_4
            replace p478 := eq_true p478
            replace q478 := eq_true q478
            try go_wp2_with (first | ((with_reducible refine gate_dst (N := 4) rfl ?_); (try (refine gate_guard (by rfl) ?_; dsimp only)); refine box_event ?hg (N := 4) ?hd (cs := #[.int .i64 0, .int .i64 0, .int .i64 0, .int .i64 0, .int .i64 0]) (t := 89) ?hr ?_; (case hd => rfl); (case hg => rfl); (case hr => first | (go_simp; done) | (go_simp; rfl)); intro gb479 hg w66 hbox hb; have n0_ := Aside0.mk (blk_below (g := gb475) (o := .cells #[.int .i64 a0_0, .int .i64 a0_1, .slice (some ad478) l0_2.length c0_2] 54 (0, 0)) (nb_ BK475.out) hb); have n1_ := Aside0.mk (below_step (ne_ HB.out) hb); have n2_ := Aside0.mk (hbox); have n3_ := Aside0.mk ((by rw [hg]; exact (below_size (ne_ HB.out)) : w.heap.size ≤ gb479)); have n4_ := Aside0.mk ((by rw [hg]; exact (below_size (ne_ HB.out)) : w.heap.size ≤ gb479)); have n5_ := Aside0.mk ((by rw [hg]; exact Nat.ne_of_lt (blk_lt (g := gb475) (o := .cells #[.int .i64 a0_0, .int .i64 a0_1, .slice (some ad478) l0_2.length c0_2] 54 (0, 0)) (nb_ BK475.out)) : gb475 ≠ gb479)); have n6_ := Aside0.mk ((by rw [hg]; exact Nat.ne_of_gt (blk_lt (g := gb475) (o := .cells #[.int .i64 a0_0, .int .i64 a0_1, .slice (some ad478) l0_2.length c0_2] 54 (0, 0)) (nb_ BK475.out)) : gb479 ≠ gb475)); clear BK475; clear HB; have BK475 := n0_; have HB := n1_; have BK479 := n2_; have GW479 := n3_; have GE479 := n4_; have NB475_479 := n5_; have NB479_475 := n6_; clear n0_ n1_ n2_ n3_ n4_ n5_ n6_; clear hb hbox hg; have hnb67 := NB479_475.out; have hnc67 := NB475_479.out; have hcz68_0 : w66.cell? ⟨gb479, 0, none⟩ = some (.int .i64 0) := (bC76 BK479.out 0).trans rfl; have hcz68_1 : w66.cell? ⟨gb479, 1, none⟩ = some (.int .i64 0) := (bC76 BK479.out 1).trans rfl; have hcz68_2 : w66.cell? ⟨gb479, 2, none⟩ = some (.int .i64 0) := (bC76 BK479.out 2).trans rfl; have hcz68_3 : w66.cell? ⟨gb479, 3, none⟩ = some (.int .i64 0) := (bC76 BK479.out 3).trans rfl; have hcz68_4 : w66.cell? ⟨gb479, 4, none⟩ = some (.int .i64 0) := (bC76 BK479.out 4).trans rfl; have hfz68_0 := blk_frozen BK479.out 0; have hfz68_1 := blk_frozen BK479.out 1; have hfz68_2 := blk_frozen BK479.out 2; have hfz68_3 := blk_frozen BK479.out 3; have hfz68_4 := blk_frozen BK479.out 4))
            have n0_ : Aside0 ((((((w66.setCell ⟨gb479, 0, none⟩ (.int .i64 ((rd_T89 l0_2 x3_1).f0))).setCell ⟨gb479, 1, none⟩ (.int .i64 ((rd_T89 l0_2 x3_1).f1))).setCell ⟨gb479, 2, none⟩ (.int .i64 ((rd_T89 l0_2 x3_1).f2))).setCell ⟨gb479, 3, none⟩ (.int .i64 ((rd_T89 l0_2 x3_1).f3))).setCell ⟨gb479, 4, none⟩ (.int .i64 ((rd_T89 l0_2 x3_1).f4))).heap[gb475]? = some (.cells #[.int .i64 a0_0, .int .i64 a0_1, .slice (some ad478) l0_2.length c0_2] 54 (0, 0))) := ⟨by (with_reducible repeat (first | refine bN76 ?_ _ | refine bD76 ?_ | refine bA76 ?_ _)); refine blk_far ?_ NB475_479.out _; (with_reducible repeat (first | refine bN76 ?_ _ | refine bD76 ?_ | refine bA76 ?_ _)); refine blk_far ?_ NB475_479.out _; (with_reducible repeat (first | refine bN76 ?_ _ | refine bD76 ?_ | refine bA76 ?_ _)); refine blk_far ?_ NB475_479.out _; (with_reducible repeat (first | refine bN76 ?_ _ | refine bD76 ?_ | refine bA76 ?_ _)); refine blk_far ?_ NB475_479.out _; (with_reducible repeat (first | refine bN76 ?_ _ | refine bD76 ?_ | refine bA76 ?_ _)); refine blk_far ?_ NB475_479.out _; (with_reducible repeat (first | refine bN76 ?_ _ | refine bD76 ?_ | refine bA76 ?_ _)); exact BK475.out⟩
            have n1_ : Aside0 ((((((w66.setCell ⟨gb479, 0, none⟩ (.int .i64 ((rd_T89 l0_2 x3_1).f0))).setCell ⟨gb479, 1, none⟩ (.int .i64 ((rd_T89 l0_2 x3_1).f1))).setCell ⟨gb479, 2, none⟩ (.int .i64 ((rd_T89 l0_2 x3_1).f2))).setCell ⟨gb479, 3, none⟩ (.int .i64 ((rd_T89 l0_2 x3_1).f3))).setCell ⟨gb479, 4, none⟩ (.int .i64 ((rd_T89 l0_2 x3_1).f4))).heap[gb479]? = some (.cells #[.int .i64 ((rd_T89 l0_2 x3_1).f0), .int .i64 ((rd_T89 l0_2 x3_1).f1), .int .i64 ((rd_T89 l0_2 x3_1).f2), .int .i64 ((rd_T89 l0_2 x3_1).f3), .int .i64 ((rd_T89 l0_2 x3_1).f4)] 89 (0, 0))) := ⟨by (with_reducible repeat (first | refine bN76 ?_ _ | refine bD76 ?_ | refine bA76 ?_ _)); refine blk_put (cs := #[.int .i64 ((rd_T89 l0_2 x3_1).f0), .int .i64 ((rd_T89 l0_2 x3_1).f1), .int .i64 ((rd_T89 l0_2 x3_1).f2), .int .i64 ((rd_T89 l0_2 x3_1).f3), .int .i64 0]) ?_ 4 _ rfl; (with_reducible repeat (first | refine bN76 ?_ _ | refine bD76 ?_ | refine bA76 ?_ _)); refine blk_put (cs := #[.int .i64 ((rd_T89 l0_2 x3_1).f0), .int .i64 ((rd_T89 l0_2 x3_1).f1), .int .i64 ((rd_T89 l0_2 x3_1).f2), .int .i64 0, .int .i64 0]) ?_ 3 _ rfl; (with_reducible repeat (first | refine bN76 ?_ _ | refine bD76 ?_ | refine bA76 ?_ _)); refine blk_put (cs := #[.int .i64 ((rd_T89 l0_2 x3_1).f0), .int .i64 ((rd_T89 l0_2 x3_1).f1), .int .i64 0, .int .i64 0, .int .i64 0]) ?_ 2 _ rfl; (with_reducible repeat (first | refine bN76 ?_ _ | refine bD76 ?_ | refine bA76 ?_ _)); refine blk_put (cs := #[.int .i64 ((rd_T89 l0_2 x3_1).f0), .int .i64 0, .int .i64 0, .int .i64 0, .int .i64 0]) ?_ 1 _ rfl; (with_reducible repeat (first | refine bN76 ?_ _ | refine bD76 ?_ | refine bA76 ?_ _)); refine blk_put (cs := #[.int .i64 0, .int .i64 0, .int .i64 0, .int .i64 0, .int .i64 0]) ?_ 0 _ rfl; (with_reducible repeat (first | refine bN76 ?_ _ | refine bD76 ?_ | refine bA76 ?_ _)); exact BK479.out⟩
            have n2_ : Aside0 (Below w.heap.size w (((((w66.setCell ⟨gb479, 0, none⟩ (.int .i64 ((rd_T89 l0_2 x3_1).f0))).setCell ⟨gb479, 1, none⟩ (.int .i64 ((rd_T89 l0_2 x3_1).f1))).setCell ⟨gb479, 2, none⟩ (.int .i64 ((rd_T89 l0_2 x3_1).f2))).setCell ⟨gb479, 3, none⟩ (.int .i64 ((rd_T89 l0_2 x3_1).f3))).setCell ⟨gb479, 4, none⟩ (.int .i64 ((rd_T89 l0_2 x3_1).f4)))) := ⟨by repeat (first | (with_reducible first | exact HB.out | apply below_alloc | apply eN76 | apply eD76 | refine bS76 ?_ GE475.out | refine bS76 ?_ GE479.out) | exact HB.out)⟩
            (try clear BK475)
            (try clear BK479)
            (try clear HB)
            generalize (((((w66.setCell ⟨gb479, 0, none⟩ (.int .i64 ((rd_T89 l0_2 x3_1).f0))).setCell ⟨gb479, 1, none⟩ (.int .i64 ((rd_T89 l0_2 x3_1).f1))).setCell ⟨gb479, 2, none⟩ (.int .i64 ((rd_T89 l0_2 x3_1).f2))).setCell ⟨gb479, 3, none⟩ (.int .i64 ((rd_T89 l0_2 x3_1).f3))).setCell ⟨gb479, 4, none⟩ (.int .i64 ((rd_T89 l0_2 x3_1).f4))) = w69 at n0_ n1_ n2_ ⊢
            have BK475 := n0_
            have BK479 := n1_
            have HB := n2_
            clear n0_ n1_ n2_
            replace BK475 := Aside0.mk (bD76 BK475.out)
            replace BK479 := Aside0.mk (bD76 BK479.out)
            replace HB := Aside0.mk (eD76 HB.out)
            refine start_ (n := 65) (S := fun w' => w'.cell? ⟨gb479, 0, none⟩ = some (.int .i64 ((rd_T89 l0_2 x3_1).f0)) ∧ w'.cell? ⟨gb479, 1, none⟩ = some (.int .i64 ((rd_T89 l0_2 x3_1).f1)) ∧ w'.cell? ⟨gb479, 2, none⟩ = some (.int .i64 ((rd_T89 l0_2 x3_1).f2)) ∧ w'.cell? ⟨gb479, 3, none⟩ = some (.int .i64 ((rd_T89 l0_2 x3_1).f3)) ∧ w'.cell? ⟨gb479, 4, none⟩ = some (.int .i64 ((rd_T89 l0_2 x3_1).f4)) ∧ w'.cell? ⟨gb475, 0, none⟩ = some (.int .i64 a0_0) ∧ w'.cell? ⟨gb475, 1, none⟩ = some (.int .i64 a0_1) ∧ w'.cell? ⟨gb475, 2, none⟩ = some (.slice (some ad478) l0_2.length c0_2)) (ds := []) z76_0 (by kernel_rfl) rfl rfl ⟨(bC76 BK479.out 0).trans rfl, (bC76 BK479.out 1).trans rfl, (bC76 BK479.out 2).trans rfl, (bC76 BK479.out 3).trans rfl, (bC76 BK479.out 4).trans rfl, (bC76 BK475.out 0).trans rfl, (bC76 BK475.out 1).trans rfl, (bC76 BK475.out 2).trans rfl⟩ (fun hHeld => ?_); refine with_tabW spec_l6Ok.tab5 spec_l6Ok.bits5 (fun HT_ HW_ => ?_)
            generalize w69.drew = w70 at BK475 BK479 HB hHeld ⊢
            refine pu_ 0 17 z76_1 HT_.out ?_
            refine pu_ 2 19 z76_2 HT_.out ?_
            refine tk_ 1 18 z76_3 HT_.out HW_.out hHeld ?_
            refine tk_ 3 20 z76_4 HT_.out HW_.out hHeld ?_
            refine pu_ 4 21 z76_5 HT_.out ?_
            refine one_ (i := 5) (N := some 22) z76_6 rfl rfl (one_of HT_.out (by kernel_rfl)) (by decide) (fun K hK => ?_)
            refine goes_ Try.func92 (by kernel_rfl) rfl #[.int .i64 ((rd_T89 l0_2 x3_1).f0), .int .i64 0, .int .i64 (wrap64 (a0_0 - 1))] (by rfl) rfl rfl na_ ?_
            with_reducible refine (spec_l1In.calls ((rd_T89 l0_2 x3_1).f0) 0 (wrap64 (a0_0 - 1)) true _ A5.out).mono ?_
            rintro e w' ⟨rfl, ⟨nd, rfl⟩⟩
            refine ⟨_, rfl, ?_⟩
            refine hK.out _ _ ⟨(bC76 BK479.out 0).trans rfl, (bC76 BK479.out 1).trans rfl, (bC76 BK479.out 2).trans rfl, (bC76 BK479.out 3).trans rfl, (bC76 BK479.out 4).trans rfl, (bC76 BK475.out 0).trans rfl, (bC76 BK475.out 1).trans rfl, (bC76 BK475.out 2).trans rfl⟩ (fun hHeld => ?_)
            clear hK K
            refine norm_ (a' := ?_) ?_ ?_
            rotate_left
            ·show Act.put _ (some 22) _ = _
             simp only [Act.put, List.setIfInBounds_toArray, List.set_cons_zero, List.set_cons_succ, i64_w, i32_w]
             rfl
            refine pu_ 6 23 z76_7 HT_.out ?_
            refine pu_ 7 24 z76_8 HT_.out ?_
            refine pu_ 8 25 z76_9 HT_.out ?_
            refine pu_ 10 27 z76_10 HT_.out ?_
            refine tk_ 9 26 z76_11 HT_.out HW_.out hHeld ?_
            refine tk_ 11 28 z76_12 HT_.out HW_.out hHeld ?_
            refine pu_ 12 29 z76_13 HT_.out ?_
            refine one_ (i := 13) (N := some 30) z76_14 rfl rfl (one_of HT_.out (by kernel_rfl)) (by decide) (fun K hK => ?_)
            refine goes_ Try.func92 (by kernel_rfl) rfl #[.int .i64 ((rd_T89 l0_2 x3_1).f1), .int .i64 0, .int .i64 (wrap64 (a0_0 - 1))] (by rfl) rfl rfl na_ ?_
            with_reducible refine (spec_l1In.calls ((rd_T89 l0_2 x3_1).f1) 0 (wrap64 (a0_0 - 1)) true _ A7.out).mono ?_
            rintro e w' ⟨rfl, ⟨nd, rfl⟩⟩
            refine ⟨_, rfl, ?_⟩
            refine hK.out _ _ ⟨(bC76 BK479.out 0).trans rfl, (bC76 BK479.out 1).trans rfl, (bC76 BK479.out 2).trans rfl, (bC76 BK479.out 3).trans rfl, (bC76 BK479.out 4).trans rfl, (bC76 BK475.out 0).trans rfl, (bC76 BK475.out 1).trans rfl, (bC76 BK475.out 2).trans rfl⟩ (fun hHeld => ?_)
            clear hK K
            refine norm_ (a' := ?_) ?_ ?_
            rotate_left
            ·show Act.put _ (some 30) _ = _
             simp only [Act.put, List.setIfInBounds_toArray, List.set_cons_zero, List.set_cons_succ, i64_w, i32_w]
             rfl
            refine pu_ 14 31 z76_15 HT_.out ?_
            refine pu_ 15 32 z76_16 HT_.out ?_
            refine pu_ 16 33 z76_17 HT_.out ?_
            refine pu_ 17 34 z76_18 HT_.out ?_
            refine pu_ 19 36 z76_19 HT_.out ?_
            refine tk_ 18 35 z76_20 HT_.out HW_.out hHeld ?_
            refine tk_ 20 37 z76_21 HT_.out HW_.out hHeld ?_
            refine pu_ 21 38 z76_22 HT_.out ?_
            refine pu_ 22 39 z76_23 HT_.out ?_
            refine pu_ 23 40 z76_24 HT_.out ?_
            refine pu_ 24 41 z76_25 HT_.out ?_
            refine tk_ 25 42 z76_26 HT_.out HW_.out hHeld ?_
            refine one_ (i := 26) (N := some 43) z76_27 rfl rfl (one_of HT_.out (by kernel_rfl)) (by decide) (fun K hK => ?_)
            refine goes_ Try.func92 (by kernel_rfl) rfl #[.int .i64 ((rd_T89 l0_2 x3_1).f2), .int .i64 0, .int .i64 199] (by rfl) rfl rfl na_ ?_
            with_reducible refine (spec_l1In.calls ((rd_T89 l0_2 x3_1).f2) 0 199 true _ A16.out).mono ?_
            rintro e w' ⟨rfl, ⟨nd, rfl⟩⟩
            refine ⟨_, rfl, ?_⟩
            refine hK.out _ _ ⟨(bC76 BK479.out 0).trans rfl, (bC76 BK479.out 1).trans rfl, (bC76 BK479.out 2).trans rfl, (bC76 BK479.out 3).trans rfl, (bC76 BK479.out 4).trans rfl, (bC76 BK475.out 0).trans rfl, (bC76 BK475.out 1).trans rfl, (bC76 BK475.out 2).trans rfl⟩ (fun hHeld => ?_)
            clear hK K
            refine norm_ (a' := ?_) ?_ ?_
            rotate_left
            ·show Act.put _ (some 43) _ = _
             simp only [Act.put, List.setIfInBounds_toArray, List.set_cons_zero, List.set_cons_succ, i64_w, i32_w]
             rfl
            refine pu_ 27 44 z76_28 HT_.out ?_
            refine pu_ 28 45 z76_29 HT_.out ?_
            refine pu_ 29 46 z76_30 HT_.out ?_
            refine pu_ 30 47 z76_31 HT_.out ?_
            refine pu_ 32 49 z76_66 HT_.out ?_
            refine tk_ 31 48 z76_33 HT_.out HW_.out hHeld ?_
            refine tk_ 33 50 z76_34 HT_.out HW_.out hHeld ?_
            refine one_ (i := 34) (N := some 51) z76_35 rfl rfl (one_of HT_.out (by kernel_rfl)) (by decide) (fun K hK => ?_)
            refine goes_ Try.func92 (by kernel_rfl) rfl #[.int .i64 ((rd_T89 l0_2 x3_1).f3), .int .i64 ((rd_T89 l0_2 x3_1).f2), .int .i64 199] (by rfl) rfl rfl na_ ?_
            with_reducible refine (spec_l1In.calls ((rd_T89 l0_2 x3_1).f3) ((rd_T89 l0_2 x3_1).f2) 199 true _ A18.out).mono ?_
            rintro e w' ⟨rfl, ⟨nd, rfl⟩⟩
            refine ⟨_, rfl, ?_⟩
            refine hK.out _ _ ⟨(bC76 BK479.out 0).trans rfl, (bC76 BK479.out 1).trans rfl, (bC76 BK479.out 2).trans rfl, (bC76 BK479.out 3).trans rfl, (bC76 BK479.out 4).trans rfl, (bC76 BK475.out 0).trans rfl, (bC76 BK475.out 1).trans rfl, (bC76 BK475.out 2).trans rfl⟩ (fun hHeld => ?_)
            clear hK K
            refine norm_ (a' := ?_) ?_ ?_
            rotate_left
            ·show Act.put _ (some 51) _ = _
             simp only [Act.put, List.setIfInBounds_toArray, List.set_cons_zero, List.set_cons_succ, i64_w, i32_w]
             rfl
            refine pu_ 35 52 z76_36 HT_.out ?_
            refine pu_ 36 53 z76_37 HT_.out ?_
            refine pu_ 37 54 z76_38 HT_.out ?_
            refine pu_ 38 55 z76_39 HT_.out ?_
            refine tk_ 39 56 z76_40 HT_.out HW_.out hHeld ?_
            refine one_ (i := 40) (N := some 57) z76_41 rfl rfl (one_of HT_.out (by kernel_rfl)) (by decide) (fun K hK => ?_)
            refine goes_ Try.func92 (by kernel_rfl) rfl #[.int .i64 ((rd_T89 l0_2 x3_1).f4), .int .i64 0, .int .i64 5] (by rfl) rfl rfl na_ ?_
            with_reducible refine (spec_l1In.calls ((rd_T89 l0_2 x3_1).f4) 0 5 false _ A20.out).mono ?_
            rintro e w' ⟨rfl, ⟨nd, rfl⟩⟩
            refine ⟨_, rfl, ?_⟩
            refine hK.out _ _ ⟨(bC76 BK479.out 0).trans rfl, (bC76 BK479.out 1).trans rfl, (bC76 BK479.out 2).trans rfl, (bC76 BK479.out 3).trans rfl, (bC76 BK479.out 4).trans rfl, (bC76 BK475.out 0).trans rfl, (bC76 BK475.out 1).trans rfl, (bC76 BK475.out 2).trans rfl⟩ (fun hHeld => ?_)
            clear hK K
            refine norm_ (a' := ?_) ?_ ?_
            rotate_left
            ·show Act.put _ (some 57) _ = _
             simp only [Act.put, List.setIfInBounds_toArray, List.set_cons_zero, List.set_cons_succ, i64_w, i32_w]
             rfl
            refine pu_ 41 58 z76_42 HT_.out ?_
            refine pu_ 42 59 z76_43 HT_.out ?_
            refine pu_ 43 60 z76_44 HT_.out ?_
            refine un_ 44 61 z76_45 HT_.out ?_
            refine un_ 45 62 z76_46 HT_.out ?_
            refine un_ 46 63 z76_47 HT_.out ?_
            refine un_ 47 64 z76_48 HT_.out ?_
            refine un_ 48 65 z76_49 HT_.out ?_
            refine un_ 49 66 z76_50 HT_.out ?_
            refine un_ 50 67 z76_51 HT_.out ?_
            refine un_ 51 68 z76_52 HT_.out ?_
            refine un_ 52 69 z76_53 HT_.out ?_
            refine un_ 53 70 z76_54 HT_.out ?_
            refine un_ 54 71 z76_55 HT_.out ?_
            refine un_ 55 72 z76_56 HT_.out ?_
            refine un_ 56 73 z76_57 HT_.out ?_
            refine un_ 57 74 z76_58 HT_.out ?_
            refine pu_ 58 75 z76_59 HT_.out ?_
            refine pu_ 59 76 z76_60 HT_.out ?_
            refine un_ 60 77 z76_61 HT_.out ?_
            refine un_ 61 78 z76_62 HT_.out ?_
            refine un_ 62 79 z76_63 HT_.out ?_
            refine un_ 63 80 z76_64 HT_.out ?_
            refine pu_ 64 81 z76_65 HT_.out ?_
            refine done_ (done_of HT_.out (by kernel_rfl)) ?_
            try go_wp2
            go_ret
            exact ⟨by first | rfl | (simp [errW_none, errW_some] <;> rfl) | (simp [*, errW_none, errW_some] <;> rfl), by repeat (first | (with_reducible first | exact HB.out | apply below_alloc | apply eN76 | apply eD76 | refine bS76 ?_ GE475.out | refine bS76 ?_ GE479.out) | exact HB.out)⟩
          ·replace c19 := Bool.eq_false_iff.mpr c19
           subst c19
           have H1 : (some false) = some r := by rw [if_neg (show ¬ (false = true) by decide)] at H; exact H
           clear H
           have H := H1
           clear H1
           obtain rfl := Option.some.inj H
           have hcz71_0 : wr.cell? ⟨gb475, 0, none⟩ = some (.int .i64 a0_0) := (bC76 BK475.out 0).trans rfl
           have hcz71_1 : wr.cell? ⟨gb475, 1, none⟩ = some (.int .i64 a0_1) := (bC76 BK475.out 1).trans rfl
           have hcz71_2 : wr.cell? ⟨gb475, 2, none⟩ = some (.slice A0_2 l0_2.length c0_2) := (bC76 BK475.out 2).trans rfl
           have hfz71_0 := blk_frozen BK475.out 0
           have hfz71_1 := blk_frozen BK475.out 1
           have hfz71_2 := blk_frozen BK475.out 2
           have p478 : 0 ≤ (x3_1 : Int) := of_decide_eq_true nx_
           have q478 : x3_1 < (l0_2.length : Int) := of_decide_eq_true nx_
           obtain ⟨ad478, e478, hx478_0, hx478_1, hx478_2, hx478_3, hx478_4⟩ := at_T89 HR0_2.out x3_1 p478 q478
           cases e478
           replace hx478_0 := (HB.out.cell (World.block_lt_of_cell? w _ hx478_0)).trans hx478_0
           replace hx478_1 := (HB.out.cell (World.block_lt_of_cell? w _ hx478_1)).trans hx478_1
           replace hx478_2 := (HB.out.cell (World.block_lt_of_cell? w _ hx478_2)).trans hx478_2
           replace hx478_3 := (HB.out.cell (World.block_lt_of_cell? w _ hx478_3)).trans hx478_3
           replace hx478_4 := (HB.out.cell (World.block_lt_of_cell? w _ hx478_4)).trans hx478_4
           replace p478 := eq_true p478
           replace q478 := eq_true q478
           try go_wp2_with (first | ((with_reducible refine gate_dst (N := 4) rfl ?_); (try (refine gate_guard (by rfl) ?_; dsimp only)); refine box_event ?hg (N := 4) ?hd (cs := #[.int .i64 0, .int .i64 0, .int .i64 0, .int .i64 0, .int .i64 0]) (t := 89) ?hr ?_; (case hd => rfl); (case hg => rfl); (case hr => first | (go_simp; done) | (go_simp; rfl)); intro gb479 hg w72 hbox hb; have n0_ := Aside0.mk (blk_below (g := gb475) (o := .cells #[.int .i64 a0_0, .int .i64 a0_1, .slice (some ad478) l0_2.length c0_2] 54 (0, 0)) (nb_ BK475.out) hb); have n1_ := Aside0.mk (below_step (ne_ HB.out) hb); have n2_ := Aside0.mk (hbox); have n3_ := Aside0.mk ((by rw [hg]; exact (below_size (ne_ HB.out)) : w.heap.size ≤ gb479)); have n4_ := Aside0.mk ((by rw [hg]; exact (below_size (ne_ HB.out)) : w.heap.size ≤ gb479)); have n5_ := Aside0.mk ((by rw [hg]; exact Nat.ne_of_lt (blk_lt (g := gb475) (o := .cells #[.int .i64 a0_0, .int .i64 a0_1, .slice (some ad478) l0_2.length c0_2] 54 (0, 0)) (nb_ BK475.out)) : gb475 ≠ gb479)); have n6_ := Aside0.mk ((by rw [hg]; exact Nat.ne_of_gt (blk_lt (g := gb475) (o := .cells #[.int .i64 a0_0, .int .i64 a0_1, .slice (some ad478) l0_2.length c0_2] 54 (0, 0)) (nb_ BK475.out)) : gb479 ≠ gb475)); clear BK475; clear HB; have BK475 := n0_; have HB := n1_; have BK479 := n2_; have GW479 := n3_; have GE479 := n4_; have NB475_479 := n5_; have NB479_475 := n6_; clear n0_ n1_ n2_ n3_ n4_ n5_ n6_; clear hb hbox hg; have hnb73 := NB479_475.out; have hnc73 := NB475_479.out; have hcz74_0 : w72.cell? ⟨gb479, 0, none⟩ = some (.int .i64 0) := (bC76 BK479.out 0).trans rfl; have hcz74_1 : w72.cell? ⟨gb479, 1, none⟩ = some (.int .i64 0) := (bC76 BK479.out 1).trans rfl; have hcz74_2 : w72.cell? ⟨gb479, 2, none⟩ = some (.int .i64 0) := (bC76 BK479.out 2).trans rfl; have hcz74_3 : w72.cell? ⟨gb479, 3, none⟩ = some (.int .i64 0) := (bC76 BK479.out 3).trans rfl; have hcz74_4 : w72.cell? ⟨gb479, 4, none⟩ = some (.int .i64 0) := (bC76 BK479.out 4).trans rfl; have hfz74_0 := blk_frozen BK479.out 0; have hfz74_1 := blk_frozen BK479.out 1; have hfz74_2 := blk_frozen BK479.out 2; have hfz74_3 := blk_frozen BK479.out 3; have hfz74_4 := blk_frozen BK479.out 4))
           have n0_ : Aside0 ((((((w72.setCell ⟨gb479, 0, none⟩ (.int .i64 ((rd_T89 l0_2 x3_1).f0))).setCell ⟨gb479, 1, none⟩ (.int .i64 ((rd_T89 l0_2 x3_1).f1))).setCell ⟨gb479, 2, none⟩ (.int .i64 ((rd_T89 l0_2 x3_1).f2))).setCell ⟨gb479, 3, none⟩ (.int .i64 ((rd_T89 l0_2 x3_1).f3))).setCell ⟨gb479, 4, none⟩ (.int .i64 ((rd_T89 l0_2 x3_1).f4))).heap[gb475]? = some (.cells #[.int .i64 a0_0, .int .i64 a0_1, .slice (some ad478) l0_2.length c0_2] 54 (0, 0))) := ⟨by (with_reducible repeat (first | refine bN76 ?_ _ | refine bD76 ?_ | refine bA76 ?_ _)); refine blk_far ?_ NB475_479.out _; (with_reducible repeat (first | refine bN76 ?_ _ | refine bD76 ?_ | refine bA76 ?_ _)); refine blk_far ?_ NB475_479.out _; (with_reducible repeat (first | refine bN76 ?_ _ | refine bD76 ?_ | refine bA76 ?_ _)); refine blk_far ?_ NB475_479.out _; (with_reducible repeat (first | refine bN76 ?_ _ | refine bD76 ?_ | refine bA76 ?_ _)); refine blk_far ?_ NB475_479.out _; (with_reducible repeat (first | refine bN76 ?_ _ | refine bD76 ?_ | refine bA76 ?_ _)); refine blk_far ?_ NB475_479.out _; (with_reducible repeat (first | refine bN76 ?_ _ | refine bD76 ?_ | refine bA76 ?_ _)); exact BK475.out⟩
           have n1_ : Aside0 ((((((w72.setCell ⟨gb479, 0, none⟩ (.int .i64 ((rd_T89 l0_2 x3_1).f0))).setCell ⟨gb479, 1, none⟩ (.int .i64 ((rd_T89 l0_2 x3_1).f1))).setCell ⟨gb479, 2, none⟩ (.int .i64 ((rd_T89 l0_2 x3_1).f2))).setCell ⟨gb479, 3, none⟩ (.int .i64 ((rd_T89 l0_2 x3_1).f3))).setCell ⟨gb479, 4, none⟩ (.int .i64 ((rd_T89 l0_2 x3_1).f4))).heap[gb479]? = some (.cells #[.int .i64 ((rd_T89 l0_2 x3_1).f0), .int .i64 ((rd_T89 l0_2 x3_1).f1), .int .i64 ((rd_T89 l0_2 x3_1).f2), .int .i64 ((rd_T89 l0_2 x3_1).f3), .int .i64 ((rd_T89 l0_2 x3_1).f4)] 89 (0, 0))) := ⟨by (with_reducible repeat (first | refine bN76 ?_ _ | refine bD76 ?_ | refine bA76 ?_ _)); refine blk_put (cs := #[.int .i64 ((rd_T89 l0_2 x3_1).f0), .int .i64 ((rd_T89 l0_2 x3_1).f1), .int .i64 ((rd_T89 l0_2 x3_1).f2), .int .i64 ((rd_T89 l0_2 x3_1).f3), .int .i64 0]) ?_ 4 _ rfl; (with_reducible repeat (first | refine bN76 ?_ _ | refine bD76 ?_ | refine bA76 ?_ _)); refine blk_put (cs := #[.int .i64 ((rd_T89 l0_2 x3_1).f0), .int .i64 ((rd_T89 l0_2 x3_1).f1), .int .i64 ((rd_T89 l0_2 x3_1).f2), .int .i64 0, .int .i64 0]) ?_ 3 _ rfl; (with_reducible repeat (first | refine bN76 ?_ _ | refine bD76 ?_ | refine bA76 ?_ _)); refine blk_put (cs := #[.int .i64 ((rd_T89 l0_2 x3_1).f0), .int .i64 ((rd_T89 l0_2 x3_1).f1), .int .i64 0, .int .i64 0, .int .i64 0]) ?_ 2 _ rfl; (with_reducible repeat (first | refine bN76 ?_ _ | refine bD76 ?_ | refine bA76 ?_ _)); refine blk_put (cs := #[.int .i64 ((rd_T89 l0_2 x3_1).f0), .int .i64 0, .int .i64 0, .int .i64 0, .int .i64 0]) ?_ 1 _ rfl; (with_reducible repeat (first | refine bN76 ?_ _ | refine bD76 ?_ | refine bA76 ?_ _)); refine blk_put (cs := #[.int .i64 0, .int .i64 0, .int .i64 0, .int .i64 0, .int .i64 0]) ?_ 0 _ rfl; (with_reducible repeat (first | refine bN76 ?_ _ | refine bD76 ?_ | refine bA76 ?_ _)); exact BK479.out⟩
           have n2_ : Aside0 (Below w.heap.size w (((((w72.setCell ⟨gb479, 0, none⟩ (.int .i64 ((rd_T89 l0_2 x3_1).f0))).setCell ⟨gb479, 1, none⟩ (.int .i64 ((rd_T89 l0_2 x3_1).f1))).setCell ⟨gb479, 2, none⟩ (.int .i64 ((rd_T89 l0_2 x3_1).f2))).setCell ⟨gb479, 3, none⟩ (.int .i64 ((rd_T89 l0_2 x3_1).f3))).setCell ⟨gb479, 4, none⟩ (.int .i64 ((rd_T89 l0_2 x3_1).f4)))) := ⟨by repeat (first | (with_reducible first | exact HB.out | apply below_alloc | apply eN76 | apply eD76 | refine bS76 ?_ GE475.out | refine bS76 ?_ GE479.out) | exact HB.out)⟩
           (try clear BK475)
           (try clear BK479)
           (try clear HB)
           generalize (((((w72.setCell ⟨gb479, 0, none⟩ (.int .i64 ((rd_T89 l0_2 x3_1).f0))).setCell ⟨gb479, 1, none⟩ (.int .i64 ((rd_T89 l0_2 x3_1).f1))).setCell ⟨gb479, 2, none⟩ (.int .i64 ((rd_T89 l0_2 x3_1).f2))).setCell ⟨gb479, 3, none⟩ (.int .i64 ((rd_T89 l0_2 x3_1).f3))).setCell ⟨gb479, 4, none⟩ (.int .i64 ((rd_T89 l0_2 x3_1).f4))) = w75 at n0_ n1_ n2_ ⊢
           have BK475 := n0_
           have BK479 := n1_
           have HB := n2_
           clear n0_ n1_ n2_
           replace BK475 := Aside0.mk (bD76 BK475.out)
           replace BK479 := Aside0.mk (bD76 BK479.out)
           replace HB := Aside0.mk (eD76 HB.out)
           refine start_ (n := 65) (S := fun w' => w'.cell? ⟨gb479, 0, none⟩ = some (.int .i64 ((rd_T89 l0_2 x3_1).f0)) ∧ w'.cell? ⟨gb479, 1, none⟩ = some (.int .i64 ((rd_T89 l0_2 x3_1).f1)) ∧ w'.cell? ⟨gb479, 2, none⟩ = some (.int .i64 ((rd_T89 l0_2 x3_1).f2)) ∧ w'.cell? ⟨gb479, 3, none⟩ = some (.int .i64 ((rd_T89 l0_2 x3_1).f3)) ∧ w'.cell? ⟨gb479, 4, none⟩ = some (.int .i64 ((rd_T89 l0_2 x3_1).f4)) ∧ w'.cell? ⟨gb475, 0, none⟩ = some (.int .i64 a0_0) ∧ w'.cell? ⟨gb475, 1, none⟩ = some (.int .i64 a0_1) ∧ w'.cell? ⟨gb475, 2, none⟩ = some (.slice (some ad478) l0_2.length c0_2)) (ds := []) z76_0 (by kernel_rfl) rfl rfl ⟨(bC76 BK479.out 0).trans rfl, (bC76 BK479.out 1).trans rfl, (bC76 BK479.out 2).trans rfl, (bC76 BK479.out 3).trans rfl, (bC76 BK479.out 4).trans rfl, (bC76 BK475.out 0).trans rfl, (bC76 BK475.out 1).trans rfl, (bC76 BK475.out 2).trans rfl⟩ (fun hHeld => ?_); refine with_tabW spec_l6Ok.tab5 spec_l6Ok.bits5 (fun HT_ HW_ => ?_)
           generalize w75.drew = w76 at BK475 BK479 HB hHeld ⊢
           refine pu_ 0 17 z76_1 HT_.out ?_
           refine pu_ 2 19 z76_2 HT_.out ?_
           refine tk_ 1 18 z76_3 HT_.out HW_.out hHeld ?_
           refine tk_ 3 20 z76_4 HT_.out HW_.out hHeld ?_
           refine pu_ 4 21 z76_5 HT_.out ?_
           refine one_ (i := 5) (N := some 22) z76_6 rfl rfl (one_of HT_.out (by kernel_rfl)) (by decide) (fun K hK => ?_)
           refine goes_ Try.func92 (by kernel_rfl) rfl #[.int .i64 ((rd_T89 l0_2 x3_1).f0), .int .i64 0, .int .i64 (wrap64 (a0_0 - 1))] (by rfl) rfl rfl na_ ?_
           with_reducible refine (spec_l1In.calls ((rd_T89 l0_2 x3_1).f0) 0 (wrap64 (a0_0 - 1)) true _ A5.out).mono ?_
           rintro e w' ⟨rfl, ⟨nd, rfl⟩⟩
           refine ⟨_, rfl, ?_⟩
           refine hK.out _ _ ⟨(bC76 BK479.out 0).trans rfl, (bC76 BK479.out 1).trans rfl, (bC76 BK479.out 2).trans rfl, (bC76 BK479.out 3).trans rfl, (bC76 BK479.out 4).trans rfl, (bC76 BK475.out 0).trans rfl, (bC76 BK475.out 1).trans rfl, (bC76 BK475.out 2).trans rfl⟩ (fun hHeld => ?_)
           clear hK K
           refine norm_ (a' := ?_) ?_ ?_
           rotate_left
           ·show Act.put _ (some 22) _ = _
            simp only [Act.put, List.setIfInBounds_toArray, List.set_cons_zero, List.set_cons_succ, i64_w, i32_w]
            rfl
           refine pu_ 6 23 z76_7 HT_.out ?_
           refine pu_ 7 24 z76_8 HT_.out ?_
           refine pu_ 8 25 z76_9 HT_.out ?_
           refine pu_ 10 27 z76_10 HT_.out ?_
           refine tk_ 9 26 z76_11 HT_.out HW_.out hHeld ?_
           refine tk_ 11 28 z76_12 HT_.out HW_.out hHeld ?_
           refine pu_ 12 29 z76_13 HT_.out ?_
           refine one_ (i := 13) (N := some 30) z76_14 rfl rfl (one_of HT_.out (by kernel_rfl)) (by decide) (fun K hK => ?_)
           refine goes_ Try.func92 (by kernel_rfl) rfl #[.int .i64 ((rd_T89 l0_2 x3_1).f1), .int .i64 0, .int .i64 (wrap64 (a0_0 - 1))] (by rfl) rfl rfl na_ ?_
           with_reducible refine (spec_l1In.calls ((rd_T89 l0_2 x3_1).f1) 0 (wrap64 (a0_0 - 1)) true _ A7.out).mono ?_
           rintro e w' ⟨rfl, ⟨nd, rfl⟩⟩
           refine ⟨_, rfl, ?_⟩
           refine hK.out _ _ ⟨(bC76 BK479.out 0).trans rfl, (bC76 BK479.out 1).trans rfl, (bC76 BK479.out 2).trans rfl, (bC76 BK479.out 3).trans rfl, (bC76 BK479.out 4).trans rfl, (bC76 BK475.out 0).trans rfl, (bC76 BK475.out 1).trans rfl, (bC76 BK475.out 2).trans rfl⟩ (fun hHeld => ?_)
           clear hK K
           refine norm_ (a' := ?_) ?_ ?_
           rotate_left
           ·show Act.put _ (some 30) _ = _
            simp only [Act.put, List.setIfInBounds_toArray, List.set_cons_zero, List.set_cons_succ, i64_w, i32_w]
            rfl
           refine pu_ 14 31 z76_15 HT_.out ?_
           refine pu_ 15 32 z76_16 HT_.out ?_
           refine pu_ 16 33 z76_17 HT_.out ?_
           refine pu_ 17 34 z76_18 HT_.out ?_
           refine pu_ 19 36 z76_19 HT_.out ?_
           refine tk_ 18 35 z76_20 HT_.out HW_.out hHeld ?_
           refine tk_ 20 37 z76_21 HT_.out HW_.out hHeld ?_
           refine pu_ 21 38 z76_22 HT_.out ?_
           refine pu_ 22 39 z76_23 HT_.out ?_
           refine pu_ 23 40 z76_24 HT_.out ?_
           refine pu_ 24 41 z76_25 HT_.out ?_
           refine tk_ 25 42 z76_26 HT_.out HW_.out hHeld ?_
           refine one_ (i := 26) (N := some 43) z76_27 rfl rfl (one_of HT_.out (by kernel_rfl)) (by decide) (fun K hK => ?_)
           refine goes_ Try.func92 (by kernel_rfl) rfl #[.int .i64 ((rd_T89 l0_2 x3_1).f2), .int .i64 0, .int .i64 199] (by rfl) rfl rfl na_ ?_
           with_reducible refine (spec_l1In.calls ((rd_T89 l0_2 x3_1).f2) 0 199 true _ A16.out).mono ?_
           rintro e w' ⟨rfl, ⟨nd, rfl⟩⟩
           refine ⟨_, rfl, ?_⟩
           refine hK.out _ _ ⟨(bC76 BK479.out 0).trans rfl, (bC76 BK479.out 1).trans rfl, (bC76 BK479.out 2).trans rfl, (bC76 BK479.out 3).trans rfl, (bC76 BK479.out 4).trans rfl, (bC76 BK475.out 0).trans rfl, (bC76 BK475.out 1).trans rfl, (bC76 BK475.out 2).trans rfl⟩ (fun hHeld => ?_)
           clear hK K
           refine norm_ (a' := ?_) ?_ ?_
           rotate_left
           ·show Act.put _ (some 43) _ = _
            simp only [Act.put, List.setIfInBounds_toArray, List.set_cons_zero, List.set_cons_succ, i64_w, i32_w]
            rfl
           refine pu_ 27 44 z76_28 HT_.out ?_
           refine pu_ 28 45 z76_29 HT_.out ?_
           refine pu_ 29 46 z76_30 HT_.out ?_
           refine pu_ 30 47 z76_31 HT_.out ?_
           refine pu_ 32 49 z76_66 HT_.out ?_
           refine tk_ 31 48 z76_33 HT_.out HW_.out hHeld ?_
           refine tk_ 33 50 z76_34 HT_.out HW_.out hHeld ?_
           refine one_ (i := 34) (N := some 51) z76_35 rfl rfl (one_of HT_.out (by kernel_rfl)) (by decide) (fun K hK => ?_)
           refine goes_ Try.func92 (by kernel_rfl) rfl #[.int .i64 ((rd_T89 l0_2 x3_1).f3), .int .i64 ((rd_T89 l0_2 x3_1).f2), .int .i64 199] (by rfl) rfl rfl na_ ?_
           with_reducible refine (spec_l1In.calls ((rd_T89 l0_2 x3_1).f3) ((rd_T89 l0_2 x3_1).f2) 199 false _ A18.out).mono ?_
           rintro e w' ⟨rfl, ⟨nd, rfl⟩⟩
           refine ⟨_, rfl, ?_⟩
           refine hK.out _ _ ⟨(bC76 BK479.out 0).trans rfl, (bC76 BK479.out 1).trans rfl, (bC76 BK479.out 2).trans rfl, (bC76 BK479.out 3).trans rfl, (bC76 BK479.out 4).trans rfl, (bC76 BK475.out 0).trans rfl, (bC76 BK475.out 1).trans rfl, (bC76 BK475.out 2).trans rfl⟩ (fun hHeld => ?_)
           clear hK K
           refine norm_ (a' := ?_) ?_ ?_
           rotate_left
           ·show Act.put _ (some 51) _ = _
            simp only [Act.put, List.setIfInBounds_toArray, List.set_cons_zero, List.set_cons_succ, i64_w, i32_w]
            rfl
           refine pu_ 35 52 z76_36 HT_.out ?_
           refine pu_ 36 53 z76_37 HT_.out ?_
           refine pu_ 37 54 z76_38 HT_.out ?_
           refine un_ 38 55 z76_39 HT_.out ?_
           refine un_ 39 56 z76_40 HT_.out ?_
           refine un_ 40 57 z76_41 HT_.out ?_
           refine un_ 41 58 z76_42 HT_.out ?_
           refine pu_ 42 59 z76_43 HT_.out ?_
           refine pu_ 43 60 z76_44 HT_.out ?_
           refine un_ 44 61 z76_45 HT_.out ?_
           refine un_ 45 62 z76_46 HT_.out ?_
           refine un_ 46 63 z76_47 HT_.out ?_
           refine un_ 47 64 z76_48 HT_.out ?_
           refine un_ 48 65 z76_49 HT_.out ?_
           refine un_ 49 66 z76_50 HT_.out ?_
           refine un_ 50 67 z76_51 HT_.out ?_
           refine un_ 51 68 z76_52 HT_.out ?_
           refine un_ 52 69 z76_53 HT_.out ?_
           refine un_ 53 70 z76_54 HT_.out ?_
           refine un_ 54 71 z76_55 HT_.out ?_
           refine un_ 55 72 z76_56 HT_.out ?_
           refine un_ 56 73 z76_57 HT_.out ?_
           refine un_ 57 74 z76_58 HT_.out ?_
           refine pu_ 58 75 z76_59 HT_.out ?_
           refine pu_ 59 76 z76_60 HT_.out ?_
           refine un_ 60 77 z76_61 HT_.out ?_
           refine un_ 61 78 z76_62 HT_.out ?_
           refine un_ 62 79 z76_63 HT_.out ?_
           refine un_ 63 80 z76_64 HT_.out ?_
           refine pu_ 64 81 z76_65 HT_.out ?_
           refine done_ (done_of HT_.out (by kernel_rfl)) ?_
           try go_wp2
           go_ret
           exact ⟨by first | rfl | (simp [errW_none, errW_some] <;> rfl) | (simp [*, errW_none, errW_some] <;> rfl), by repeat (first | (with_reducible first | exact HB.out | apply below_alloc | apply eN76 | apply eD76 | refine bS76 ?_ GE475.out | refine bS76 ?_ GE479.out) | exact HB.out)⟩
         ·replace c17 := Bool.eq_false_iff.mpr c17
          subst c17
          have H1 : (some false) = some r := by rw [if_neg (show ¬ (false = true) by decide)] at H; exact H
          clear H
          have H := H1
          clear H1
          obtain rfl := Option.some.inj H
          have hcz77_0 : wr.cell? ⟨gb475, 0, none⟩ = some (.int .i64 a0_0) := (bC76 BK475.out 0).trans rfl
          have hcz77_1 : wr.cell? ⟨gb475, 1, none⟩ = some (.int .i64 a0_1) := (bC76 BK475.out 1).trans rfl
          have hcz77_2 : wr.cell? ⟨gb475, 2, none⟩ = some (.slice A0_2 l0_2.length c0_2) := (bC76 BK475.out 2).trans rfl
          have hfz77_0 := blk_frozen BK475.out 0
          have hfz77_1 := blk_frozen BK475.out 1
          have hfz77_2 := blk_frozen BK475.out 2
          have p478 : 0 ≤ (x3_1 : Int) := of_decide_eq_true nx_
          have q478 : x3_1 < (l0_2.length : Int) := of_decide_eq_true nx_
          obtain ⟨ad478, e478, hx478_0, hx478_1, hx478_2, hx478_3, hx478_4⟩ := at_T89 HR0_2.out x3_1 p478 q478
          cases e478
          replace hx478_0 := (HB.out.cell (World.block_lt_of_cell? w _ hx478_0)).trans hx478_0
          replace hx478_1 := (HB.out.cell (World.block_lt_of_cell? w _ hx478_1)).trans hx478_1
          replace hx478_2 := (HB.out.cell (World.block_lt_of_cell? w _ hx478_2)).trans hx478_2
          replace hx478_3 := (HB.out.cell (World.block_lt_of_cell? w _ hx478_3)).trans hx478_3
          replace hx478_4 := (HB.out.cell (World.block_lt_of_cell? w _ hx478_4)).trans hx478_4
          replace p478 := eq_true p478
          replace q478 := eq_true q478
          try go_wp2_with (first | ((with_reducible refine gate_dst (N := 4) rfl ?_); (try (refine gate_guard (by rfl) ?_; dsimp only)); refine box_event ?hg (N := 4) ?hd (cs := #[.int .i64 0, .int .i64 0, .int .i64 0, .int .i64 0, .int .i64 0]) (t := 89) ?hr ?_; (case hd => rfl); (case hg => rfl); (case hr => first | (go_simp; done) | (go_simp; rfl)); intro gb479 hg w78 hbox hb; have n0_ := Aside0.mk (blk_below (g := gb475) (o := .cells #[.int .i64 a0_0, .int .i64 a0_1, .slice (some ad478) l0_2.length c0_2] 54 (0, 0)) (nb_ BK475.out) hb); have n1_ := Aside0.mk (below_step (ne_ HB.out) hb); have n2_ := Aside0.mk (hbox); have n3_ := Aside0.mk ((by rw [hg]; exact (below_size (ne_ HB.out)) : w.heap.size ≤ gb479)); have n4_ := Aside0.mk ((by rw [hg]; exact (below_size (ne_ HB.out)) : w.heap.size ≤ gb479)); have n5_ := Aside0.mk ((by rw [hg]; exact Nat.ne_of_lt (blk_lt (g := gb475) (o := .cells #[.int .i64 a0_0, .int .i64 a0_1, .slice (some ad478) l0_2.length c0_2] 54 (0, 0)) (nb_ BK475.out)) : gb475 ≠ gb479)); have n6_ := Aside0.mk ((by rw [hg]; exact Nat.ne_of_gt (blk_lt (g := gb475) (o := .cells #[.int .i64 a0_0, .int .i64 a0_1, .slice (some ad478) l0_2.length c0_2] 54 (0, 0)) (nb_ BK475.out)) : gb479 ≠ gb475)); clear BK475; clear HB; have BK475 := n0_; have HB := n1_; have BK479 := n2_; have GW479 := n3_; have GE479 := n4_; have NB475_479 := n5_; have NB479_475 := n6_; clear n0_ n1_ n2_ n3_ n4_ n5_ n6_; clear hb hbox hg; have hnb79 := NB479_475.out; have hnc79 := NB475_479.out; have hcz80_0 : w78.cell? ⟨gb479, 0, none⟩ = some (.int .i64 0) := (bC76 BK479.out 0).trans rfl; have hcz80_1 : w78.cell? ⟨gb479, 1, none⟩ = some (.int .i64 0) := (bC76 BK479.out 1).trans rfl; have hcz80_2 : w78.cell? ⟨gb479, 2, none⟩ = some (.int .i64 0) := (bC76 BK479.out 2).trans rfl; have hcz80_3 : w78.cell? ⟨gb479, 3, none⟩ = some (.int .i64 0) := (bC76 BK479.out 3).trans rfl; have hcz80_4 : w78.cell? ⟨gb479, 4, none⟩ = some (.int .i64 0) := (bC76 BK479.out 4).trans rfl; have hfz80_0 := blk_frozen BK479.out 0; have hfz80_1 := blk_frozen BK479.out 1; have hfz80_2 := blk_frozen BK479.out 2; have hfz80_3 := blk_frozen BK479.out 3; have hfz80_4 := blk_frozen BK479.out 4))
          have n0_ : Aside0 ((((((w78.setCell ⟨gb479, 0, none⟩ (.int .i64 ((rd_T89 l0_2 x3_1).f0))).setCell ⟨gb479, 1, none⟩ (.int .i64 ((rd_T89 l0_2 x3_1).f1))).setCell ⟨gb479, 2, none⟩ (.int .i64 ((rd_T89 l0_2 x3_1).f2))).setCell ⟨gb479, 3, none⟩ (.int .i64 ((rd_T89 l0_2 x3_1).f3))).setCell ⟨gb479, 4, none⟩ (.int .i64 ((rd_T89 l0_2 x3_1).f4))).heap[gb475]? = some (.cells #[.int .i64 a0_0, .int .i64 a0_1, .slice (some ad478) l0_2.length c0_2] 54 (0, 0))) := ⟨by (with_reducible repeat (first | refine bN76 ?_ _ | refine bD76 ?_ | refine bA76 ?_ _)); refine blk_far ?_ NB475_479.out _; (with_reducible repeat (first | refine bN76 ?_ _ | refine bD76 ?_ | refine bA76 ?_ _)); refine blk_far ?_ NB475_479.out _; (with_reducible repeat (first | refine bN76 ?_ _ | refine bD76 ?_ | refine bA76 ?_ _)); refine blk_far ?_ NB475_479.out _; (with_reducible repeat (first | refine bN76 ?_ _ | refine bD76 ?_ | refine bA76 ?_ _)); refine blk_far ?_ NB475_479.out _; (with_reducible repeat (first | refine bN76 ?_ _ | refine bD76 ?_ | refine bA76 ?_ _)); refine blk_far ?_ NB475_479.out _; (with_reducible repeat (first | refine bN76 ?_ _ | refine bD76 ?_ | refine bA76 ?_ _)); exact BK475.out⟩
          have n1_ : Aside0 ((((((w78.setCell ⟨gb479, 0, none⟩ (.int .i64 ((rd_T89 l0_2 x3_1).f0))).setCell ⟨gb479, 1, none⟩ (.int .i64 ((rd_T89 l0_2 x3_1).f1))).setCell ⟨gb479, 2, none⟩ (.int .i64 ((rd_T89 l0_2 x3_1).f2))).setCell ⟨gb479, 3, none⟩ (.int .i64 ((rd_T89 l0_2 x3_1).f3))).setCell ⟨gb479, 4, none⟩ (.int .i64 ((rd_T89 l0_2 x3_1).f4))).heap[gb479]? = some (.cells #[.int .i64 ((rd_T89 l0_2 x3_1).f0), .int .i64 ((rd_T89 l0_2 x3_1).f1), .int .i64 ((rd_T89 l0_2 x3_1).f2), .int .i64 ((rd_T89 l0_2 x3_1).f3), .int .i64 ((rd_T89 l0_2 x3_1).f4)] 89 (0, 0))) := ⟨by (with_reducible repeat (first | refine bN76 ?_ _ | refine bD76 ?_ | refine bA76 ?_ _)); refine blk_put (cs := #[.int .i64 ((rd_T89 l0_2 x3_1).f0), .int .i64 ((rd_T89 l0_2 x3_1).f1), .int .i64 ((rd_T89 l0_2 x3_1).f2), .int .i64 ((rd_T89 l0_2 x3_1).f3), .int .i64 0]) ?_ 4 _ rfl; (with_reducible repeat (first | refine bN76 ?_ _ | refine bD76 ?_ | refine bA76 ?_ _)); refine blk_put (cs := #[.int .i64 ((rd_T89 l0_2 x3_1).f0), .int .i64 ((rd_T89 l0_2 x3_1).f1), .int .i64 ((rd_T89 l0_2 x3_1).f2), .int .i64 0, .int .i64 0]) ?_ 3 _ rfl; (with_reducible repeat (first | refine bN76 ?_ _ | refine bD76 ?_ | refine bA76 ?_ _)); refine blk_put (cs := #[.int .i64 ((rd_T89 l0_2 x3_1).f0), .int .i64 ((rd_T89 l0_2 x3_1).f1), .int .i64 0, .int .i64 0, .int .i64 0]) ?_ 2 _ rfl; (with_reducible repeat (first | refine bN76 ?_ _ | refine bD76 ?_ | refine bA76 ?_ _)); refine blk_put (cs := #[.int .i64 ((rd_T89 l0_2 x3_1).f0), .int .i64 0, .int .i64 0, .int .i64 0, .int .i64 0]) ?_ 1 _ rfl; (with_reducible repeat (first | refine bN76 ?_ _ | refine bD76 ?_ | refine bA76 ?_ _)); refine blk_put (cs := #[.int .i64 0, .int .i64 0, .int .i64 0, .int .i64 0, .int .i64 0]) ?_ 0 _ rfl; (with_reducible repeat (first | refine bN76 ?_ _ | refine bD76 ?_ | refine bA76 ?_ _)); exact BK479.out⟩
          have n2_ : Aside0 (Below w.heap.size w (((((w78.setCell ⟨gb479, 0, none⟩ (.int .i64 ((rd_T89 l0_2 x3_1).f0))).setCell ⟨gb479, 1, none⟩ (.int .i64 ((rd_T89 l0_2 x3_1).f1))).setCell ⟨gb479, 2, none⟩ (.int .i64 ((rd_T89 l0_2 x3_1).f2))).setCell ⟨gb479, 3, none⟩ (.int .i64 ((rd_T89 l0_2 x3_1).f3))).setCell ⟨gb479, 4, none⟩ (.int .i64 ((rd_T89 l0_2 x3_1).f4)))) := ⟨by repeat (first | (with_reducible first | exact HB.out | apply below_alloc | apply eN76 | apply eD76 | refine bS76 ?_ GE475.out | refine bS76 ?_ GE479.out) | exact HB.out)⟩
          (try clear BK475)
          (try clear BK479)
          (try clear HB)
          generalize (((((w78.setCell ⟨gb479, 0, none⟩ (.int .i64 ((rd_T89 l0_2 x3_1).f0))).setCell ⟨gb479, 1, none⟩ (.int .i64 ((rd_T89 l0_2 x3_1).f1))).setCell ⟨gb479, 2, none⟩ (.int .i64 ((rd_T89 l0_2 x3_1).f2))).setCell ⟨gb479, 3, none⟩ (.int .i64 ((rd_T89 l0_2 x3_1).f3))).setCell ⟨gb479, 4, none⟩ (.int .i64 ((rd_T89 l0_2 x3_1).f4))) = w81 at n0_ n1_ n2_ ⊢
          have BK475 := n0_
          have BK479 := n1_
          have HB := n2_
          clear n0_ n1_ n2_
          replace BK475 := Aside0.mk (bD76 BK475.out)
          replace BK479 := Aside0.mk (bD76 BK479.out)
          replace HB := Aside0.mk (eD76 HB.out)
          refine start_ (n := 65) (S := fun w' => w'.cell? ⟨gb479, 0, none⟩ = some (.int .i64 ((rd_T89 l0_2 x3_1).f0)) ∧ w'.cell? ⟨gb479, 1, none⟩ = some (.int .i64 ((rd_T89 l0_2 x3_1).f1)) ∧ w'.cell? ⟨gb479, 2, none⟩ = some (.int .i64 ((rd_T89 l0_2 x3_1).f2)) ∧ w'.cell? ⟨gb479, 3, none⟩ = some (.int .i64 ((rd_T89 l0_2 x3_1).f3)) ∧ w'.cell? ⟨gb479, 4, none⟩ = some (.int .i64 ((rd_T89 l0_2 x3_1).f4)) ∧ w'.cell? ⟨gb475, 0, none⟩ = some (.int .i64 a0_0) ∧ w'.cell? ⟨gb475, 1, none⟩ = some (.int .i64 a0_1) ∧ w'.cell? ⟨gb475, 2, none⟩ = some (.slice (some ad478) l0_2.length c0_2)) (ds := []) z76_0 (by kernel_rfl) rfl rfl ⟨(bC76 BK479.out 0).trans rfl, (bC76 BK479.out 1).trans rfl, (bC76 BK479.out 2).trans rfl, (bC76 BK479.out 3).trans rfl, (bC76 BK479.out 4).trans rfl, (bC76 BK475.out 0).trans rfl, (bC76 BK475.out 1).trans rfl, (bC76 BK475.out 2).trans rfl⟩ (fun hHeld => ?_); refine with_tabW spec_l6Ok.tab5 spec_l6Ok.bits5 (fun HT_ HW_ => ?_)
          generalize w81.drew = w82 at BK475 BK479 HB hHeld ⊢
          refine pu_ 0 17 z76_1 HT_.out ?_
          refine pu_ 2 19 z76_2 HT_.out ?_
          refine tk_ 1 18 z76_3 HT_.out HW_.out hHeld ?_
          refine tk_ 3 20 z76_4 HT_.out HW_.out hHeld ?_
          refine pu_ 4 21 z76_5 HT_.out ?_
          refine one_ (i := 5) (N := some 22) z76_6 rfl rfl (one_of HT_.out (by kernel_rfl)) (by decide) (fun K hK => ?_)
          refine goes_ Try.func92 (by kernel_rfl) rfl #[.int .i64 ((rd_T89 l0_2 x3_1).f0), .int .i64 0, .int .i64 (wrap64 (a0_0 - 1))] (by rfl) rfl rfl na_ ?_
          with_reducible refine (spec_l1In.calls ((rd_T89 l0_2 x3_1).f0) 0 (wrap64 (a0_0 - 1)) true _ A5.out).mono ?_
          rintro e w' ⟨rfl, ⟨nd, rfl⟩⟩
          refine ⟨_, rfl, ?_⟩
          refine hK.out _ _ ⟨(bC76 BK479.out 0).trans rfl, (bC76 BK479.out 1).trans rfl, (bC76 BK479.out 2).trans rfl, (bC76 BK479.out 3).trans rfl, (bC76 BK479.out 4).trans rfl, (bC76 BK475.out 0).trans rfl, (bC76 BK475.out 1).trans rfl, (bC76 BK475.out 2).trans rfl⟩ (fun hHeld => ?_)
          clear hK K
          refine norm_ (a' := ?_) ?_ ?_
          rotate_left
          ·show Act.put _ (some 22) _ = _
           simp only [Act.put, List.setIfInBounds_toArray, List.set_cons_zero, List.set_cons_succ, i64_w, i32_w]
           rfl
          refine pu_ 6 23 z76_7 HT_.out ?_
          refine pu_ 7 24 z76_8 HT_.out ?_
          refine pu_ 8 25 z76_9 HT_.out ?_
          refine pu_ 10 27 z76_10 HT_.out ?_
          refine tk_ 9 26 z76_11 HT_.out HW_.out hHeld ?_
          refine tk_ 11 28 z76_12 HT_.out HW_.out hHeld ?_
          refine pu_ 12 29 z76_13 HT_.out ?_
          refine one_ (i := 13) (N := some 30) z76_14 rfl rfl (one_of HT_.out (by kernel_rfl)) (by decide) (fun K hK => ?_)
          refine goes_ Try.func92 (by kernel_rfl) rfl #[.int .i64 ((rd_T89 l0_2 x3_1).f1), .int .i64 0, .int .i64 (wrap64 (a0_0 - 1))] (by rfl) rfl rfl na_ ?_
          with_reducible refine (spec_l1In.calls ((rd_T89 l0_2 x3_1).f1) 0 (wrap64 (a0_0 - 1)) true _ A7.out).mono ?_
          rintro e w' ⟨rfl, ⟨nd, rfl⟩⟩
          refine ⟨_, rfl, ?_⟩
          refine hK.out _ _ ⟨(bC76 BK479.out 0).trans rfl, (bC76 BK479.out 1).trans rfl, (bC76 BK479.out 2).trans rfl, (bC76 BK479.out 3).trans rfl, (bC76 BK479.out 4).trans rfl, (bC76 BK475.out 0).trans rfl, (bC76 BK475.out 1).trans rfl, (bC76 BK475.out 2).trans rfl⟩ (fun hHeld => ?_)
          clear hK K
          refine norm_ (a' := ?_) ?_ ?_
          rotate_left
          ·show Act.put _ (some 30) _ = _
           simp only [Act.put, List.setIfInBounds_toArray, List.set_cons_zero, List.set_cons_succ, i64_w, i32_w]
           rfl
          refine pu_ 14 31 z76_15 HT_.out ?_
          refine pu_ 15 32 z76_16 HT_.out ?_
          refine pu_ 16 33 z76_17 HT_.out ?_
          refine pu_ 17 34 z76_18 HT_.out ?_
          refine pu_ 19 36 z76_19 HT_.out ?_
          refine tk_ 18 35 z76_20 HT_.out HW_.out hHeld ?_
          refine tk_ 20 37 z76_21 HT_.out HW_.out hHeld ?_
          refine pu_ 21 38 z76_22 HT_.out ?_
          refine pu_ 22 39 z76_23 HT_.out ?_
          refine pu_ 23 40 z76_24 HT_.out ?_
          refine pu_ 24 41 z76_25 HT_.out ?_
          refine tk_ 25 42 z76_26 HT_.out HW_.out hHeld ?_
          refine one_ (i := 26) (N := some 43) z76_27 rfl rfl (one_of HT_.out (by kernel_rfl)) (by decide) (fun K hK => ?_)
          refine goes_ Try.func92 (by kernel_rfl) rfl #[.int .i64 ((rd_T89 l0_2 x3_1).f2), .int .i64 0, .int .i64 199] (by rfl) rfl rfl na_ ?_
          with_reducible refine (spec_l1In.calls ((rd_T89 l0_2 x3_1).f2) 0 199 false _ A16.out).mono ?_
          rintro e w' ⟨rfl, ⟨nd, rfl⟩⟩
          refine ⟨_, rfl, ?_⟩
          refine hK.out _ _ ⟨(bC76 BK479.out 0).trans rfl, (bC76 BK479.out 1).trans rfl, (bC76 BK479.out 2).trans rfl, (bC76 BK479.out 3).trans rfl, (bC76 BK479.out 4).trans rfl, (bC76 BK475.out 0).trans rfl, (bC76 BK475.out 1).trans rfl, (bC76 BK475.out 2).trans rfl⟩ (fun hHeld => ?_)
          clear hK K
          refine norm_ (a' := ?_) ?_ ?_
          rotate_left
          ·show Act.put _ (some 43) _ = _
           simp only [Act.put, List.setIfInBounds_toArray, List.set_cons_zero, List.set_cons_succ, i64_w, i32_w]
           rfl
          refine pu_ 27 44 z76_28 HT_.out ?_
          refine pu_ 28 45 z76_29 HT_.out ?_
          refine pu_ 29 46 z76_30 HT_.out ?_
          refine un_ 30 47 z76_31 HT_.out ?_
          refine un_ 31 48 z76_32 HT_.out ?_
          refine un_ 32 49 z76_33 HT_.out ?_
          refine un_ 33 50 z76_34 HT_.out ?_
          refine un_ 34 51 z76_35 HT_.out ?_
          refine un_ 35 52 z76_36 HT_.out ?_
          refine pu_ 36 53 z76_37 HT_.out ?_
          refine pu_ 37 54 z76_38 HT_.out ?_
          refine un_ 38 55 z76_39 HT_.out ?_
          refine un_ 39 56 z76_40 HT_.out ?_
          refine un_ 40 57 z76_41 HT_.out ?_
          refine un_ 41 58 z76_42 HT_.out ?_
          refine pu_ 42 59 z76_43 HT_.out ?_
          refine pu_ 43 60 z76_44 HT_.out ?_
          refine un_ 44 61 z76_45 HT_.out ?_
          refine un_ 45 62 z76_46 HT_.out ?_
          refine un_ 46 63 z76_47 HT_.out ?_
          refine un_ 47 64 z76_48 HT_.out ?_
          refine un_ 48 65 z76_49 HT_.out ?_
          refine un_ 49 66 z76_50 HT_.out ?_
          refine un_ 50 67 z76_51 HT_.out ?_
          refine un_ 51 68 z76_52 HT_.out ?_
          refine un_ 52 69 z76_53 HT_.out ?_
          refine un_ 53 70 z76_54 HT_.out ?_
          refine un_ 54 71 z76_55 HT_.out ?_
          refine un_ 55 72 z76_56 HT_.out ?_
          refine un_ 56 73 z76_57 HT_.out ?_
          refine un_ 57 74 z76_58 HT_.out ?_
          refine pu_ 58 75 z76_59 HT_.out ?_
          refine pu_ 59 76 z76_60 HT_.out ?_
          refine un_ 60 77 z76_61 HT_.out ?_
          refine un_ 61 78 z76_62 HT_.out ?_
          refine un_ 62 79 z76_63 HT_.out ?_
          refine un_ 63 80 z76_64 HT_.out ?_
          refine pu_ 64 81 z76_65 HT_.out ?_
          refine done_ (done_of HT_.out (by kernel_rfl)) ?_
          try go_wp2
          go_ret
          exact ⟨by first | rfl | (simp [errW_none, errW_some] <;> rfl) | (simp [*, errW_none, errW_some] <;> rfl), by repeat (first | (with_reducible first | exact HB.out | apply below_alloc | apply eN76 | apply eD76 | refine bS76 ?_ GE475.out | refine bS76 ?_ GE479.out) | exact HB.out)⟩
       ·replace c8 := Bool.eq_false_iff.mpr c8
        subst c8
        have H1 : (some false) = some r := by rw [if_neg (show ¬ (false = true) by decide)] at H; exact H
        clear H
        have H := H1
        clear H1
        obtain rfl := Option.some.inj H
        have hcz83_0 : wr.cell? ⟨gb475, 0, none⟩ = some (.int .i64 a0_0) := (bC76 BK475.out 0).trans rfl
        have hcz83_1 : wr.cell? ⟨gb475, 1, none⟩ = some (.int .i64 a0_1) := (bC76 BK475.out 1).trans rfl
        have hcz83_2 : wr.cell? ⟨gb475, 2, none⟩ = some (.slice A0_2 l0_2.length c0_2) := (bC76 BK475.out 2).trans rfl
        have hfz83_0 := blk_frozen BK475.out 0
        have hfz83_1 := blk_frozen BK475.out 1
        have hfz83_2 := blk_frozen BK475.out 2
        have p478 : 0 ≤ (x3_1 : Int) := of_decide_eq_true nx_
        have q478 : x3_1 < (l0_2.length : Int) := of_decide_eq_true nx_
        obtain ⟨ad478, e478, hx478_0, hx478_1, hx478_2, hx478_3, hx478_4⟩ := at_T89 HR0_2.out x3_1 p478 q478
        cases e478
        replace hx478_0 := (HB.out.cell (World.block_lt_of_cell? w _ hx478_0)).trans hx478_0
        replace hx478_1 := (HB.out.cell (World.block_lt_of_cell? w _ hx478_1)).trans hx478_1
        replace hx478_2 := (HB.out.cell (World.block_lt_of_cell? w _ hx478_2)).trans hx478_2
        replace hx478_3 := (HB.out.cell (World.block_lt_of_cell? w _ hx478_3)).trans hx478_3
        replace hx478_4 := (HB.out.cell (World.block_lt_of_cell? w _ hx478_4)).trans hx478_4
        replace p478 := eq_true p478
        replace q478 := eq_true q478
        try go_wp2_with (first | ((with_reducible refine gate_dst (N := 4) rfl ?_); (try (refine gate_guard (by rfl) ?_; dsimp only)); refine box_event ?hg (N := 4) ?hd (cs := #[.int .i64 0, .int .i64 0, .int .i64 0, .int .i64 0, .int .i64 0]) (t := 89) ?hr ?_; (case hd => rfl); (case hg => rfl); (case hr => first | (go_simp; done) | (go_simp; rfl)); intro gb479 hg w84 hbox hb; have n0_ := Aside0.mk (blk_below (g := gb475) (o := .cells #[.int .i64 a0_0, .int .i64 a0_1, .slice (some ad478) l0_2.length c0_2] 54 (0, 0)) (nb_ BK475.out) hb); have n1_ := Aside0.mk (below_step (ne_ HB.out) hb); have n2_ := Aside0.mk (hbox); have n3_ := Aside0.mk ((by rw [hg]; exact (below_size (ne_ HB.out)) : w.heap.size ≤ gb479)); have n4_ := Aside0.mk ((by rw [hg]; exact (below_size (ne_ HB.out)) : w.heap.size ≤ gb479)); have n5_ := Aside0.mk ((by rw [hg]; exact Nat.ne_of_lt (blk_lt (g := gb475) (o := .cells #[.int .i64 a0_0, .int .i64 a0_1, .slice (some ad478) l0_2.length c0_2] 54 (0, 0)) (nb_ BK475.out)) : gb475 ≠ gb479)); have n6_ := Aside0.mk ((by rw [hg]; exact Nat.ne_of_gt (blk_lt (g := gb475) (o := .cells #[.int .i64 a0_0, .int .i64 a0_1, .slice (some ad478) l0_2.length c0_2] 54 (0, 0)) (nb_ BK475.out)) : gb479 ≠ gb475)); clear BK475; clear HB; have BK475 := n0_; have HB := n1_; have BK479 := n2_; have GW479 := n3_; have GE479 := n4_; have NB475_479 := n5_; have NB479_475 := n6_; clear n0_ n1_ n2_ n3_ n4_ n5_ n6_; clear hb hbox hg; have hnb85 := NB479_475.out; have hnc85 := NB475_479.out; have hcz86_0 : w84.cell? ⟨gb479, 0, none⟩ = some (.int .i64 0) := (bC76 BK479.out 0).trans rfl; have hcz86_1 : w84.cell? ⟨gb479, 1, none⟩ = some (.int .i64 0) := (bC76 BK479.out 1).trans rfl; have hcz86_2 : w84.cell? ⟨gb479, 2, none⟩ = some (.int .i64 0) := (bC76 BK479.out 2).trans rfl; have hcz86_3 : w84.cell? ⟨gb479, 3, none⟩ = some (.int .i64 0) := (bC76 BK479.out 3).trans rfl; have hcz86_4 : w84.cell? ⟨gb479, 4, none⟩ = some (.int .i64 0) := (bC76 BK479.out 4).trans rfl; have hfz86_0 := blk_frozen BK479.out 0; have hfz86_1 := blk_frozen BK479.out 1; have hfz86_2 := blk_frozen BK479.out 2; have hfz86_3 := blk_frozen BK479.out 3; have hfz86_4 := blk_frozen BK479.out 4))
        have n0_ : Aside0 ((((((w84.setCell ⟨gb479, 0, none⟩ (.int .i64 ((rd_T89 l0_2 x3_1).f0))).setCell ⟨gb479, 1, none⟩ (.int .i64 ((rd_T89 l0_2 x3_1).f1))).setCell ⟨gb479, 2, none⟩ (.int .i64 ((rd_T89 l0_2 x3_1).f2))).setCell ⟨gb479, 3, none⟩ (.int .i64 ((rd_T89 l0_2 x3_1).f3))).setCell ⟨gb479, 4, none⟩ (.int .i64 ((rd_T89 l0_2 x3_1).f4))).heap[gb475]? = some (.cells #[.int .i64 a0_0, .int .i64 a0_1, .slice (some ad478) l0_2.length c0_2] 54 (0, 0))) := ⟨by (with_reducible repeat (first | refine bN76 ?_ _ | refine bD76 ?_ | refine bA76 ?_ _)); refine blk_far ?_ NB475_479.out _; (with_reducible repeat (first | refine bN76 ?_ _ | refine bD76 ?_ | refine bA76 ?_ _)); refine blk_far ?_ NB475_479.out _; (with_reducible repeat (first | refine bN76 ?_ _ | refine bD76 ?_ | refine bA76 ?_ _)); refine blk_far ?_ NB475_479.out _; (with_reducible repeat (first | refine bN76 ?_ _ | refine bD76 ?_ | refine bA76 ?_ _)); refine blk_far ?_ NB475_479.out _; (with_reducible repeat (first | refine bN76 ?_ _ | refine bD76 ?_ | refine bA76 ?_ _)); refine blk_far ?_ NB475_479.out _; (with_reducible repeat (first | refine bN76 ?_ _ | refine bD76 ?_ | refine bA76 ?_ _)); exact BK475.out⟩
        have n1_ : Aside0 ((((((w84.setCell ⟨gb479, 0, none⟩ (.int .i64 ((rd_T89 l0_2 x3_1).f0))).setCell ⟨gb479, 1, none⟩ (.int .i64 ((rd_T89 l0_2 x3_1).f1))).setCell ⟨gb479, 2, none⟩ (.int .i64 ((rd_T89 l0_2 x3_1).f2))).setCell ⟨gb479, 3, none⟩ (.int .i64 ((rd_T89 l0_2 x3_1).f3))).setCell ⟨gb479, 4, none⟩ (.int .i64 ((rd_T89 l0_2 x3_1).f4))).heap[gb479]? = some (.cells #[.int .i64 ((rd_T89 l0_2 x3_1).f0), .int .i64 ((rd_T89 l0_2 x3_1).f1), .int .i64 ((rd_T89 l0_2 x3_1).f2), .int .i64 ((rd_T89 l0_2 x3_1).f3), .int .i64 ((rd_T89 l0_2 x3_1).f4)] 89 (0, 0))) := ⟨by (with_reducible repeat (first | refine bN76 ?_ _ | refine bD76 ?_ | refine bA76 ?_ _)); refine blk_put (cs := #[.int .i64 ((rd_T89 l0_2 x3_1).f0), .int .i64 ((rd_T89 l0_2 x3_1).f1), .int .i64 ((rd_T89 l0_2 x3_1).f2), .int .i64 ((rd_T89 l0_2 x3_1).f3), .int .i64 0]) ?_ 4 _ rfl; (with_reducible repeat (first | refine bN76 ?_ _ | refine bD76 ?_ | refine bA76 ?_ _)); refine blk_put (cs := #[.int .i64 ((rd_T89 l0_2 x3_1).f0), .int .i64 ((rd_T89 l0_2 x3_1).f1), .int .i64 ((rd_T89 l0_2 x3_1).f2), .int .i64 0, .int .i64 0]) ?_ 3 _ rfl; (with_reducible repeat (first | refine bN76 ?_ _ | refine bD76 ?_ | refine bA76 ?_ _)); refine blk_put (cs := #[.int .i64 ((rd_T89 l0_2 x3_1).f0), .int .i64 ((rd_T89 l0_2 x3_1).f1), .int .i64 0, .int .i64 0, .int .i64 0]) ?_ 2 _ rfl; (with_reducible repeat (first | refine bN76 ?_ _ | refine bD76 ?_ | refine bA76 ?_ _)); refine blk_put (cs := #[.int .i64 ((rd_T89 l0_2 x3_1).f0), .int .i64 0, .int .i64 0, .int .i64 0, .int .i64 0]) ?_ 1 _ rfl; (with_reducible repeat (first | refine bN76 ?_ _ | refine bD76 ?_ | refine bA76 ?_ _)); refine blk_put (cs := #[.int .i64 0, .int .i64 0, .int .i64 0, .int .i64 0, .int .i64 0]) ?_ 0 _ rfl; (with_reducible repeat (first | refine bN76 ?_ _ | refine bD76 ?_ | refine bA76 ?_ _)); exact BK479.out⟩
        have n2_ : Aside0 (Below w.heap.size w (((((w84.setCell ⟨gb479, 0, none⟩ (.int .i64 ((rd_T89 l0_2 x3_1).f0))).setCell ⟨gb479, 1, none⟩ (.int .i64 ((rd_T89 l0_2 x3_1).f1))).setCell ⟨gb479, 2, none⟩ (.int .i64 ((rd_T89 l0_2 x3_1).f2))).setCell ⟨gb479, 3, none⟩ (.int .i64 ((rd_T89 l0_2 x3_1).f3))).setCell ⟨gb479, 4, none⟩ (.int .i64 ((rd_T89 l0_2 x3_1).f4)))) := ⟨by repeat (first | (with_reducible first | exact HB.out | apply below_alloc | apply eN76 | apply eD76 | refine bS76 ?_ GE475.out | refine bS76 ?_ GE479.out) | exact HB.out)⟩
        (try clear BK475)
        (try clear BK479)
        (try clear HB)
        generalize (((((w84.setCell ⟨gb479, 0, none⟩ (.int .i64 ((rd_T89 l0_2 x3_1).f0))).setCell ⟨gb479, 1, none⟩ (.int .i64 ((rd_T89 l0_2 x3_1).f1))).setCell ⟨gb479, 2, none⟩ (.int .i64 ((rd_T89 l0_2 x3_1).f2))).setCell ⟨gb479, 3, none⟩ (.int .i64 ((rd_T89 l0_2 x3_1).f3))).setCell ⟨gb479, 4, none⟩ (.int .i64 ((rd_T89 l0_2 x3_1).f4))) = w87 at n0_ n1_ n2_ ⊢
        have BK475 := n0_
        have BK479 := n1_
        have HB := n2_
        clear n0_ n1_ n2_
        replace BK475 := Aside0.mk (bD76 BK475.out)
        replace BK479 := Aside0.mk (bD76 BK479.out)
        replace HB := Aside0.mk (eD76 HB.out)
        refine start_ (n := 65) (S := fun w' => w'.cell? ⟨gb479, 0, none⟩ = some (.int .i64 ((rd_T89 l0_2 x3_1).f0)) ∧ w'.cell? ⟨gb479, 1, none⟩ = some (.int .i64 ((rd_T89 l0_2 x3_1).f1)) ∧ w'.cell? ⟨gb479, 2, none⟩ = some (.int .i64 ((rd_T89 l0_2 x3_1).f2)) ∧ w'.cell? ⟨gb479, 3, none⟩ = some (.int .i64 ((rd_T89 l0_2 x3_1).f3)) ∧ w'.cell? ⟨gb479, 4, none⟩ = some (.int .i64 ((rd_T89 l0_2 x3_1).f4)) ∧ w'.cell? ⟨gb475, 0, none⟩ = some (.int .i64 a0_0) ∧ w'.cell? ⟨gb475, 1, none⟩ = some (.int .i64 a0_1) ∧ w'.cell? ⟨gb475, 2, none⟩ = some (.slice (some ad478) l0_2.length c0_2)) (ds := []) z76_0 (by kernel_rfl) rfl rfl ⟨(bC76 BK479.out 0).trans rfl, (bC76 BK479.out 1).trans rfl, (bC76 BK479.out 2).trans rfl, (bC76 BK479.out 3).trans rfl, (bC76 BK479.out 4).trans rfl, (bC76 BK475.out 0).trans rfl, (bC76 BK475.out 1).trans rfl, (bC76 BK475.out 2).trans rfl⟩ (fun hHeld => ?_); refine with_tabW spec_l6Ok.tab5 spec_l6Ok.bits5 (fun HT_ HW_ => ?_)
        generalize w87.drew = w88 at BK475 BK479 HB hHeld ⊢
        refine pu_ 0 17 z76_1 HT_.out ?_
        refine pu_ 2 19 z76_2 HT_.out ?_
        refine tk_ 1 18 z76_3 HT_.out HW_.out hHeld ?_
        refine tk_ 3 20 z76_4 HT_.out HW_.out hHeld ?_
        refine pu_ 4 21 z76_5 HT_.out ?_
        refine one_ (i := 5) (N := some 22) z76_6 rfl rfl (one_of HT_.out (by kernel_rfl)) (by decide) (fun K hK => ?_)
        refine goes_ Try.func92 (by kernel_rfl) rfl #[.int .i64 ((rd_T89 l0_2 x3_1).f0), .int .i64 0, .int .i64 (wrap64 (a0_0 - 1))] (by rfl) rfl rfl na_ ?_
        with_reducible refine (spec_l1In.calls ((rd_T89 l0_2 x3_1).f0) 0 (wrap64 (a0_0 - 1)) true _ A5.out).mono ?_
        rintro e w' ⟨rfl, ⟨nd, rfl⟩⟩
        refine ⟨_, rfl, ?_⟩
        refine hK.out _ _ ⟨(bC76 BK479.out 0).trans rfl, (bC76 BK479.out 1).trans rfl, (bC76 BK479.out 2).trans rfl, (bC76 BK479.out 3).trans rfl, (bC76 BK479.out 4).trans rfl, (bC76 BK475.out 0).trans rfl, (bC76 BK475.out 1).trans rfl, (bC76 BK475.out 2).trans rfl⟩ (fun hHeld => ?_)
        clear hK K
        refine norm_ (a' := ?_) ?_ ?_
        rotate_left
        ·show Act.put _ (some 22) _ = _
         simp only [Act.put, List.setIfInBounds_toArray, List.set_cons_zero, List.set_cons_succ, i64_w, i32_w]
         rfl
        refine pu_ 6 23 z76_7 HT_.out ?_
        refine pu_ 7 24 z76_8 HT_.out ?_
        refine pu_ 8 25 z76_9 HT_.out ?_
        refine pu_ 10 27 z76_10 HT_.out ?_
        refine tk_ 9 26 z76_11 HT_.out HW_.out hHeld ?_
        refine tk_ 11 28 z76_12 HT_.out HW_.out hHeld ?_
        refine pu_ 12 29 z76_13 HT_.out ?_
        refine one_ (i := 13) (N := some 30) z76_14 rfl rfl (one_of HT_.out (by kernel_rfl)) (by decide) (fun K hK => ?_)
        refine goes_ Try.func92 (by kernel_rfl) rfl #[.int .i64 ((rd_T89 l0_2 x3_1).f1), .int .i64 0, .int .i64 (wrap64 (a0_0 - 1))] (by rfl) rfl rfl na_ ?_
        with_reducible refine (spec_l1In.calls ((rd_T89 l0_2 x3_1).f1) 0 (wrap64 (a0_0 - 1)) false _ A7.out).mono ?_
        rintro e w' ⟨rfl, ⟨nd, rfl⟩⟩
        refine ⟨_, rfl, ?_⟩
        refine hK.out _ _ ⟨(bC76 BK479.out 0).trans rfl, (bC76 BK479.out 1).trans rfl, (bC76 BK479.out 2).trans rfl, (bC76 BK479.out 3).trans rfl, (bC76 BK479.out 4).trans rfl, (bC76 BK475.out 0).trans rfl, (bC76 BK475.out 1).trans rfl, (bC76 BK475.out 2).trans rfl⟩ (fun hHeld => ?_)
        clear hK K
        refine norm_ (a' := ?_) ?_ ?_
        rotate_left
        ·show Act.put _ (some 30) _ = _
         simp only [Act.put, List.setIfInBounds_toArray, List.set_cons_zero, List.set_cons_succ, i64_w, i32_w]
         rfl
        refine pu_ 14 31 z76_15 HT_.out ?_
        refine pu_ 15 32 z76_16 HT_.out ?_
        refine pu_ 16 33 z76_17 HT_.out ?_
        refine un_ 17 34 z76_18 HT_.out ?_
        refine un_ 18 35 z76_72 HT_.out ?_
        refine un_ 19 36 z76_20 HT_.out ?_
        refine un_ 20 37 z76_21 HT_.out ?_
        refine un_ 21 38 z76_22 HT_.out ?_
        refine pu_ 22 39 z76_23 HT_.out ?_
        refine pu_ 23 40 z76_24 HT_.out ?_
        refine un_ 24 41 z76_25 HT_.out ?_
        refine un_ 25 42 z76_26 HT_.out ?_
        refine un_ 26 43 z76_27 HT_.out ?_
        refine un_ 27 44 z76_28 HT_.out ?_
        refine pu_ 28 45 z76_29 HT_.out ?_
        refine pu_ 29 46 z76_30 HT_.out ?_
        refine un_ 30 47 z76_31 HT_.out ?_
        refine un_ 31 48 z76_32 HT_.out ?_
        refine un_ 32 49 z76_33 HT_.out ?_
        refine un_ 33 50 z76_34 HT_.out ?_
        refine un_ 34 51 z76_35 HT_.out ?_
        refine un_ 35 52 z76_36 HT_.out ?_
        refine pu_ 36 53 z76_37 HT_.out ?_
        refine pu_ 37 54 z76_38 HT_.out ?_
        refine un_ 38 55 z76_39 HT_.out ?_
        refine un_ 39 56 z76_40 HT_.out ?_
        refine un_ 40 57 z76_41 HT_.out ?_
        refine un_ 41 58 z76_42 HT_.out ?_
        refine pu_ 42 59 z76_43 HT_.out ?_
        refine pu_ 43 60 z76_44 HT_.out ?_
        refine un_ 44 61 z76_45 HT_.out ?_
        refine un_ 45 62 z76_46 HT_.out ?_
        refine un_ 46 63 z76_47 HT_.out ?_
        refine un_ 47 64 z76_48 HT_.out ?_
        refine un_ 48 65 z76_49 HT_.out ?_
        refine un_ 49 66 z76_50 HT_.out ?_
        refine un_ 50 67 z76_51 HT_.out ?_
        refine un_ 51 68 z76_52 HT_.out ?_
        refine un_ 52 69 z76_53 HT_.out ?_
        refine un_ 53 70 z76_54 HT_.out ?_
        refine un_ 54 71 z76_55 HT_.out ?_
        refine un_ 55 72 z76_56 HT_.out ?_
        refine un_ 56 73 z76_57 HT_.out ?_
        refine un_ 57 74 z76_58 HT_.out ?_
        refine pu_ 58 75 z76_59 HT_.out ?_
        refine pu_ 59 76 z76_60 HT_.out ?_
        refine un_ 60 77 z76_61 HT_.out ?_
        refine un_ 61 78 z76_62 HT_.out ?_
        refine un_ 62 79 z76_63 HT_.out ?_
        refine un_ 63 80 z76_64 HT_.out ?_
        refine pu_ 64 81 z76_65 HT_.out ?_
        refine done_ (done_of HT_.out (by kernel_rfl)) ?_
        try go_wp2
        go_ret
        exact ⟨by first | rfl | (simp [errW_none, errW_some] <;> rfl) | (simp [*, errW_none, errW_some] <;> rfl), by repeat (first | (with_reducible first | exact HB.out | apply below_alloc | apply eN76 | apply eD76 | refine bS76 ?_ GE475.out | refine bS76 ?_ GE479.out) | exact HB.out)⟩
      ·replace c6 := Bool.eq_false_iff.mpr c6
       subst c6
       have H1 : (some false) = some r := by rw [if_neg (show ¬ (false = true) by decide)] at H; exact H
       clear H
       have H := H1
       clear H1
       obtain rfl := Option.some.inj H
       have hcz89_0 : wr.cell? ⟨gb475, 0, none⟩ = some (.int .i64 a0_0) := (bC76 BK475.out 0).trans rfl
       have hcz89_1 : wr.cell? ⟨gb475, 1, none⟩ = some (.int .i64 a0_1) := (bC76 BK475.out 1).trans rfl
       have hcz89_2 : wr.cell? ⟨gb475, 2, none⟩ = some (.slice A0_2 l0_2.length c0_2) := (bC76 BK475.out 2).trans rfl
       have hfz89_0 := blk_frozen BK475.out 0
       have hfz89_1 := blk_frozen BK475.out 1
       have hfz89_2 := blk_frozen BK475.out 2
       have p478 : 0 ≤ (x3_1 : Int) := of_decide_eq_true nx_
       have q478 : x3_1 < (l0_2.length : Int) := of_decide_eq_true nx_
       obtain ⟨ad478, e478, hx478_0, hx478_1, hx478_2, hx478_3, hx478_4⟩ := at_T89 HR0_2.out x3_1 p478 q478
       cases e478
       replace hx478_0 := (HB.out.cell (World.block_lt_of_cell? w _ hx478_0)).trans hx478_0
       replace hx478_1 := (HB.out.cell (World.block_lt_of_cell? w _ hx478_1)).trans hx478_1
       replace hx478_2 := (HB.out.cell (World.block_lt_of_cell? w _ hx478_2)).trans hx478_2
       replace hx478_3 := (HB.out.cell (World.block_lt_of_cell? w _ hx478_3)).trans hx478_3
       replace hx478_4 := (HB.out.cell (World.block_lt_of_cell? w _ hx478_4)).trans hx478_4
       replace p478 := eq_true p478
       replace q478 := eq_true q478
       try go_wp2_with (first | ((with_reducible refine gate_dst (N := 4) rfl ?_); (try (refine gate_guard (by rfl) ?_; dsimp only)); refine box_event ?hg (N := 4) ?hd (cs := #[.int .i64 0, .int .i64 0, .int .i64 0, .int .i64 0, .int .i64 0]) (t := 89) ?hr ?_; (case hd => rfl); (case hg => rfl); (case hr => first | (go_simp; done) | (go_simp; rfl)); intro gb479 hg w90 hbox hb; have n0_ := Aside0.mk (blk_below (g := gb475) (o := .cells #[.int .i64 a0_0, .int .i64 a0_1, .slice (some ad478) l0_2.length c0_2] 54 (0, 0)) (nb_ BK475.out) hb); have n1_ := Aside0.mk (below_step (ne_ HB.out) hb); have n2_ := Aside0.mk (hbox); have n3_ := Aside0.mk ((by rw [hg]; exact (below_size (ne_ HB.out)) : w.heap.size ≤ gb479)); have n4_ := Aside0.mk ((by rw [hg]; exact (below_size (ne_ HB.out)) : w.heap.size ≤ gb479)); have n5_ := Aside0.mk ((by rw [hg]; exact Nat.ne_of_lt (blk_lt (g := gb475) (o := .cells #[.int .i64 a0_0, .int .i64 a0_1, .slice (some ad478) l0_2.length c0_2] 54 (0, 0)) (nb_ BK475.out)) : gb475 ≠ gb479)); have n6_ := Aside0.mk ((by rw [hg]; exact Nat.ne_of_gt (blk_lt (g := gb475) (o := .cells #[.int .i64 a0_0, .int .i64 a0_1, .slice (some ad478) l0_2.length c0_2] 54 (0, 0)) (nb_ BK475.out)) : gb479 ≠ gb475)); clear BK475; clear HB; have BK475 := n0_; have HB := n1_; have BK479 := n2_; have GW479 := n3_; have GE479 := n4_; have NB475_479 := n5_; have NB479_475 := n6_; clear n0_ n1_ n2_ n3_ n4_ n5_ n6_; clear hb hbox hg; have hnb91 := NB479_475.out; have hnc91 := NB475_479.out; have hcz92_0 : w90.cell? ⟨gb479, 0, none⟩ = some (.int .i64 0) := (bC76 BK479.out 0).trans rfl; have hcz92_1 : w90.cell? ⟨gb479, 1, none⟩ = some (.int .i64 0) := (bC76 BK479.out 1).trans rfl; have hcz92_2 : w90.cell? ⟨gb479, 2, none⟩ = some (.int .i64 0) := (bC76 BK479.out 2).trans rfl; have hcz92_3 : w90.cell? ⟨gb479, 3, none⟩ = some (.int .i64 0) := (bC76 BK479.out 3).trans rfl; have hcz92_4 : w90.cell? ⟨gb479, 4, none⟩ = some (.int .i64 0) := (bC76 BK479.out 4).trans rfl; have hfz92_0 := blk_frozen BK479.out 0; have hfz92_1 := blk_frozen BK479.out 1; have hfz92_2 := blk_frozen BK479.out 2; have hfz92_3 := blk_frozen BK479.out 3; have hfz92_4 := blk_frozen BK479.out 4))
       have n0_ : Aside0 ((((((w90.setCell ⟨gb479, 0, none⟩ (.int .i64 ((rd_T89 l0_2 x3_1).f0))).setCell ⟨gb479, 1, none⟩ (.int .i64 ((rd_T89 l0_2 x3_1).f1))).setCell ⟨gb479, 2, none⟩ (.int .i64 ((rd_T89 l0_2 x3_1).f2))).setCell ⟨gb479, 3, none⟩ (.int .i64 ((rd_T89 l0_2 x3_1).f3))).setCell ⟨gb479, 4, none⟩ (.int .i64 ((rd_T89 l0_2 x3_1).f4))).heap[gb475]? = some (.cells #[.int .i64 a0_0, .int .i64 a0_1, .slice (some ad478) l0_2.length c0_2] 54 (0, 0))) := ⟨by (with_reducible repeat (first | refine bN76 ?_ _ | refine bD76 ?_ | refine bA76 ?_ _)); refine blk_far ?_ NB475_479.out _; (with_reducible repeat (first | refine bN76 ?_ _ | refine bD76 ?_ | refine bA76 ?_ _)); refine blk_far ?_ NB475_479.out _; (with_reducible repeat (first | refine bN76 ?_ _ | refine bD76 ?_ | refine bA76 ?_ _)); refine blk_far ?_ NB475_479.out _; (with_reducible repeat (first | refine bN76 ?_ _ | refine bD76 ?_ | refine bA76 ?_ _)); refine blk_far ?_ NB475_479.out _; (with_reducible repeat (first | refine bN76 ?_ _ | refine bD76 ?_ | refine bA76 ?_ _)); refine blk_far ?_ NB475_479.out _; (with_reducible repeat (first | refine bN76 ?_ _ | refine bD76 ?_ | refine bA76 ?_ _)); exact BK475.out⟩
       have n1_ : Aside0 ((((((w90.setCell ⟨gb479, 0, none⟩ (.int .i64 ((rd_T89 l0_2 x3_1).f0))).setCell ⟨gb479, 1, none⟩ (.int .i64 ((rd_T89 l0_2 x3_1).f1))).setCell ⟨gb479, 2, none⟩ (.int .i64 ((rd_T89 l0_2 x3_1).f2))).setCell ⟨gb479, 3, none⟩ (.int .i64 ((rd_T89 l0_2 x3_1).f3))).setCell ⟨gb479, 4, none⟩ (.int .i64 ((rd_T89 l0_2 x3_1).f4))).heap[gb479]? = some (.cells #[.int .i64 ((rd_T89 l0_2 x3_1).f0), .int .i64 ((rd_T89 l0_2 x3_1).f1), .int .i64 ((rd_T89 l0_2 x3_1).f2), .int .i64 ((rd_T89 l0_2 x3_1).f3), .int .i64 ((rd_T89 l0_2 x3_1).f4)] 89 (0, 0))) := ⟨by (with_reducible repeat (first | refine bN76 ?_ _ | refine bD76 ?_ | refine bA76 ?_ _)); refine blk_put (cs := #[.int .i64 ((rd_T89 l0_2 x3_1).f0), .int .i64 ((rd_T89 l0_2 x3_1).f1), .int .i64 ((rd_T89 l0_2 x3_1).f2), .int .i64 ((rd_T89 l0_2 x3_1).f3), .int .i64 0]) ?_ 4 _ rfl; (with_reducible repeat (first | refine bN76 ?_ _ | refine bD76 ?_ | refine bA76 ?_ _)); refine blk_put (cs := #[.int .i64 ((rd_T89 l0_2 x3_1).f0), .int .i64 ((rd_T89 l0_2 x3_1).f1), .int .i64 ((rd_T89 l0_2 x3_1).f2), .int .i64 0, .int .i64 0]) ?_ 3 _ rfl; (with_reducible repeat (first | refine bN76 ?_ _ | refine bD76 ?_ | refine bA76 ?_ _)); refine blk_put (cs := #[.int .i64 ((rd_T89 l0_2 x3_1).f0), .int .i64 ((rd_T89 l0_2 x3_1).f1), .int .i64 0, .int .i64 0, .int .i64 0]) ?_ 2 _ rfl; (with_reducible repeat (first | refine bN76 ?_ _ | refine bD76 ?_ | refine bA76 ?_ _)); refine blk_put (cs := #[.int .i64 ((rd_T89 l0_2 x3_1).f0), .int .i64 0, .int .i64 0, .int .i64 0, .int .i64 0]) ?_ 1 _ rfl; (with_reducible repeat (first | refine bN76 ?_ _ | refine bD76 ?_ | refine bA76 ?_ _)); refine blk_put (cs := #[.int .i64 0, .int .i64 0, .int .i64 0, .int .i64 0, .int .i64 0]) ?_ 0 _ rfl; (with_reducible repeat (first | refine bN76 ?_ _ | refine bD76 ?_ | refine bA76 ?_ _)); exact BK479.out⟩
       have n2_ : Aside0 (Below w.heap.size w (((((w90.setCell ⟨gb479, 0, none⟩ (.int .i64 ((rd_T89 l0_2 x3_1).f0))).setCell ⟨gb479, 1, none⟩ (.int .i64 ((rd_T89 l0_2 x3_1).f1))).setCell ⟨gb479, 2, none⟩ (.int .i64 ((rd_T89 l0_2 x3_1).f2))).setCell ⟨gb479, 3, none⟩ (.int .i64 ((rd_T89 l0_2 x3_1).f3))).setCell ⟨gb479, 4, none⟩ (.int .i64 ((rd_T89 l0_2 x3_1).f4)))) := ⟨by repeat (first | (with_reducible first | exact HB.out | apply below_alloc | apply eN76 | apply eD76 | refine bS76 ?_ GE475.out | refine bS76 ?_ GE479.out) | exact HB.out)⟩
       (try clear BK475)
       (try clear BK479)
       (try clear HB)
       generalize (((((w90.setCell ⟨gb479, 0, none⟩ (.int .i64 ((rd_T89 l0_2 x3_1).f0))).setCell ⟨gb479, 1, none⟩ (.int .i64 ((rd_T89 l0_2 x3_1).f1))).setCell ⟨gb479, 2, none⟩ (.int .i64 ((rd_T89 l0_2 x3_1).f2))).setCell ⟨gb479, 3, none⟩ (.int .i64 ((rd_T89 l0_2 x3_1).f3))).setCell ⟨gb479, 4, none⟩ (.int .i64 ((rd_T89 l0_2 x3_1).f4))) = w93 at n0_ n1_ n2_ ⊢
       have BK475 := n0_
       have BK479 := n1_
       have HB := n2_
       clear n0_ n1_ n2_
       replace BK475 := Aside0.mk (bD76 BK475.out)
       replace BK479 := Aside0.mk (bD76 BK479.out)
       replace HB := Aside0.mk (eD76 HB.out)
       refine start_ (n := 65) (S := fun w' => w'.cell? ⟨gb479, 0, none⟩ = some (.int .i64 ((rd_T89 l0_2 x3_1).f0)) ∧ w'.cell? ⟨gb479, 1, none⟩ = some (.int .i64 ((rd_T89 l0_2 x3_1).f1)) ∧ w'.cell? ⟨gb479, 2, none⟩ = some (.int .i64 ((rd_T89 l0_2 x3_1).f2)) ∧ w'.cell? ⟨gb479, 3, none⟩ = some (.int .i64 ((rd_T89 l0_2 x3_1).f3)) ∧ w'.cell? ⟨gb479, 4, none⟩ = some (.int .i64 ((rd_T89 l0_2 x3_1).f4)) ∧ w'.cell? ⟨gb475, 0, none⟩ = some (.int .i64 a0_0) ∧ w'.cell? ⟨gb475, 1, none⟩ = some (.int .i64 a0_1) ∧ w'.cell? ⟨gb475, 2, none⟩ = some (.slice (some ad478) l0_2.length c0_2)) (ds := []) z76_0 (by kernel_rfl) rfl rfl ⟨(bC76 BK479.out 0).trans rfl, (bC76 BK479.out 1).trans rfl, (bC76 BK479.out 2).trans rfl, (bC76 BK479.out 3).trans rfl, (bC76 BK479.out 4).trans rfl, (bC76 BK475.out 0).trans rfl, (bC76 BK475.out 1).trans rfl, (bC76 BK475.out 2).trans rfl⟩ (fun hHeld => ?_); refine with_tabW spec_l6Ok.tab5 spec_l6Ok.bits5 (fun HT_ HW_ => ?_)
       generalize w93.drew = w94 at BK475 BK479 HB hHeld ⊢
       refine pu_ 0 17 z76_1 HT_.out ?_
       refine pu_ 2 19 z76_2 HT_.out ?_
       refine tk_ 1 18 z76_3 HT_.out HW_.out hHeld ?_
       refine tk_ 3 20 z76_4 HT_.out HW_.out hHeld ?_
       refine pu_ 4 21 z76_5 HT_.out ?_
       refine one_ (i := 5) (N := some 22) z76_6 rfl rfl (one_of HT_.out (by kernel_rfl)) (by decide) (fun K hK => ?_)
       refine goes_ Try.func92 (by kernel_rfl) rfl #[.int .i64 ((rd_T89 l0_2 x3_1).f0), .int .i64 0, .int .i64 (wrap64 (a0_0 - 1))] (by rfl) rfl rfl na_ ?_
       with_reducible refine (spec_l1In.calls ((rd_T89 l0_2 x3_1).f0) 0 (wrap64 (a0_0 - 1)) false _ A5.out).mono ?_
       rintro e w' ⟨rfl, ⟨nd, rfl⟩⟩
       refine ⟨_, rfl, ?_⟩
       refine hK.out _ _ ⟨(bC76 BK479.out 0).trans rfl, (bC76 BK479.out 1).trans rfl, (bC76 BK479.out 2).trans rfl, (bC76 BK479.out 3).trans rfl, (bC76 BK479.out 4).trans rfl, (bC76 BK475.out 0).trans rfl, (bC76 BK475.out 1).trans rfl, (bC76 BK475.out 2).trans rfl⟩ (fun hHeld => ?_)
       clear hK K
       refine norm_ (a' := ?_) ?_ ?_
       rotate_left
       ·show Act.put _ (some 22) _ = _
        simp only [Act.put, List.setIfInBounds_toArray, List.set_cons_zero, List.set_cons_succ, i64_w, i32_w]
        rfl
       refine pu_ 6 23 z76_7 HT_.out ?_
       refine pu_ 7 24 z76_8 HT_.out ?_
       refine un_ 8 25 z76_9 HT_.out ?_
       refine un_ 9 26 #[true, true, true, true, true, true, true, true, true, true, false, false, false, false, false, false, false, false, false, false, false, false, false, false, false, false, false, false, false, false, false, false, false, false, false, false, false, false, false, false, false, false, false, false, false, false, false, false, false, false, false, false, false, false, false, false, false, false, false, false, false, false, false, false, false] HT_.out ?_
       refine un_ 10 27 z76_11 HT_.out ?_
       refine un_ 11 28 z76_12 HT_.out ?_
       refine un_ 12 29 z76_13 HT_.out ?_
       refine un_ 13 30 z76_14 HT_.out ?_
       refine un_ 14 31 z76_15 HT_.out ?_
       refine pu_ 15 32 z76_16 HT_.out ?_
       refine pu_ 16 33 z76_17 HT_.out ?_
       refine un_ 17 34 z76_18 HT_.out ?_
       refine un_ 18 35 z76_72 HT_.out ?_
       refine un_ 19 36 z76_20 HT_.out ?_
       refine un_ 20 37 z76_21 HT_.out ?_
       refine un_ 21 38 z76_22 HT_.out ?_
       refine pu_ 22 39 z76_23 HT_.out ?_
       refine pu_ 23 40 z76_24 HT_.out ?_
       refine un_ 24 41 z76_25 HT_.out ?_
       refine un_ 25 42 z76_26 HT_.out ?_
       refine un_ 26 43 z76_27 HT_.out ?_
       refine un_ 27 44 z76_28 HT_.out ?_
       refine pu_ 28 45 z76_29 HT_.out ?_
       refine pu_ 29 46 z76_30 HT_.out ?_
       refine un_ 30 47 z76_31 HT_.out ?_
       refine un_ 31 48 z76_32 HT_.out ?_
       refine un_ 32 49 z76_33 HT_.out ?_
       refine un_ 33 50 z76_34 HT_.out ?_
       refine un_ 34 51 z76_35 HT_.out ?_
       refine un_ 35 52 z76_36 HT_.out ?_
       refine pu_ 36 53 z76_37 HT_.out ?_
       refine pu_ 37 54 z76_38 HT_.out ?_
       refine un_ 38 55 z76_39 HT_.out ?_
       refine un_ 39 56 z76_40 HT_.out ?_
       refine un_ 40 57 z76_41 HT_.out ?_
       refine un_ 41 58 z76_42 HT_.out ?_
       refine pu_ 42 59 z76_43 HT_.out ?_
       refine pu_ 43 60 z76_44 HT_.out ?_
       refine un_ 44 61 z76_45 HT_.out ?_
       refine un_ 45 62 z76_46 HT_.out ?_
       refine un_ 46 63 z76_47 HT_.out ?_
       refine un_ 47 64 z76_48 HT_.out ?_
       refine un_ 48 65 z76_49 HT_.out ?_
       refine un_ 49 66 z76_50 HT_.out ?_
       refine un_ 50 67 z76_51 HT_.out ?_
       refine un_ 51 68 z76_52 HT_.out ?_
       refine un_ 52 69 z76_53 HT_.out ?_
       refine un_ 53 70 z76_54 HT_.out ?_
       refine un_ 54 71 z76_55 HT_.out ?_
       refine un_ 55 72 z76_56 HT_.out ?_
       refine un_ 56 73 z76_57 HT_.out ?_
       refine un_ 57 74 z76_58 HT_.out ?_
       refine pu_ 58 75 z76_59 HT_.out ?_
       refine pu_ 59 76 z76_60 HT_.out ?_
       refine un_ 60 77 z76_61 HT_.out ?_
       refine un_ 61 78 z76_62 HT_.out ?_
       refine un_ 62 79 z76_63 HT_.out ?_
       refine un_ 63 80 z76_64 HT_.out ?_
       refine pu_ 64 81 z76_65 HT_.out ?_
       refine done_ (done_of HT_.out (by kernel_rfl)) ?_
       try go_wp2
       go_ret
       exact ⟨by first | rfl | (simp [errW_none, errW_some] <;> rfl) | (simp [*, errW_none, errW_some] <;> rfl), by repeat (first | (with_reducible first | exact HB.out | apply below_alloc | apply eN76 | apply eD76 | refine bS76 ?_ GE475.out | refine bS76 ?_ GE479.out) | exact HB.out)⟩
     ·rw [if_neg c4] at H
      exact absurd H (by simp)
    ·rw [if_neg c3] at H
     have c3b0 : decide (x3_1 < (l0_2.length : Int)) = false := decide_eq_false c3
     clear c3
     replace H := Option.bind_eq_some_iff.mp H
     obtain ⟨t476, A950, H⟩ := H
     try dsimp only at H
     have A95 := Aside0.mk A950
     clear A950
     by_cases c96 : t476 = true
     ·subst c96
      have H1 : (if (l0_2.length : Int) ≤ 16 then ((spec_l1In.f a0_1 0 20).bind fun t477 => (some t477)) else (some false)) = some r := by rw [if_pos rfl] at H; exact H
      clear H
      have H := H1
      clear H1
      by_cases c97 : (l0_2.length : Int) ≤ 16
      ·rw [if_pos c97] at H
       have c97b0 : decide ((l0_2.length : Int) ≤ 16) = true := decide_eq_true c97
       have c97b1 : decide (l0_2.length ≤ 16) = true := decide_eq_true (by omega)
       clear c97
       replace H := Option.bind_eq_some_iff.mp H
       obtain ⟨t477, A980, H⟩ := H
       replace H : (some t477) = some r := H
       have A98 := Aside0.mk A980
       clear A980
       obtain rfl := Option.some.inj H
       have hcz99_0 : wr.cell? ⟨gb475, 0, none⟩ = some (.int .i64 a0_0) := (bC76 BK475.out 0).trans rfl
       have hcz99_1 : wr.cell? ⟨gb475, 1, none⟩ = some (.int .i64 a0_1) := (bC76 BK475.out 1).trans rfl
       have hcz99_2 : wr.cell? ⟨gb475, 2, none⟩ = some (.slice A0_2 l0_2.length c0_2) := (bC76 BK475.out 2).trans rfl
       have hfz99_0 := blk_frozen BK475.out 0
       have hfz99_1 := blk_frozen BK475.out 1
       have hfz99_2 := blk_frozen BK475.out 2
       go_wp2_with (first | ((with_reducible refine gate_callee (f := 92) rfl ?_); refine goesL_ (some 84) rfl rfl Try.func92 (by kernel_rfl) rfl #[.int .i64 a0_0, .int .i64 1, .int .i64 8] rfl na_ ?_; (with_reducible refine (spec_l1In.calls a0_0 1 8 true _ A95.out).mono ?_); rintro e w' ⟨rfl, ⟨nd, rfl⟩⟩; refine ⟨_, rfl, ?_⟩) | (go_at_call 92; (with_reducible refine (spec_l1In.calls a0_1 0 20 t477 _ A98.out).mono ?_); rintro e w' ⟨rfl, ⟨nd, rfl⟩⟩))
       go_ret
       exact ⟨by first | rfl | (simp [errW_none, errW_some] <;> rfl) | (simp [*, errW_none, errW_some] <;> rfl), by repeat (first | (with_reducible first | exact HB.out | apply below_alloc | apply eN76 | apply eD76 | refine bS76 ?_ GE475.out) | exact HB.out)⟩
      ·rw [if_neg c97] at H
       have c97b0 : decide ((l0_2.length : Int) ≤ 16) = false := decide_eq_false c97
       have c97b1 : decide (l0_2.length ≤ 16) = false := decide_eq_false (by omega)
       clear c97
       obtain rfl := Option.some.inj H
       have hcz100_0 : wr.cell? ⟨gb475, 0, none⟩ = some (.int .i64 a0_0) := (bC76 BK475.out 0).trans rfl
       have hcz100_1 : wr.cell? ⟨gb475, 1, none⟩ = some (.int .i64 a0_1) := (bC76 BK475.out 1).trans rfl
       have hcz100_2 : wr.cell? ⟨gb475, 2, none⟩ = some (.slice A0_2 l0_2.length c0_2) := (bC76 BK475.out 2).trans rfl
       have hfz100_0 := blk_frozen BK475.out 0
       have hfz100_1 := blk_frozen BK475.out 1
       have hfz100_2 := blk_frozen BK475.out 2
       go_wp2_with (first | ((with_reducible refine gate_callee (f := 92) rfl ?_); refine goesL_ (some 84) rfl rfl Try.func92 (by kernel_rfl) rfl #[.int .i64 a0_0, .int .i64 1, .int .i64 8] rfl na_ ?_; (with_reducible refine (spec_l1In.calls a0_0 1 8 true _ A95.out).mono ?_); rintro e w' ⟨rfl, ⟨nd, rfl⟩⟩; refine ⟨_, rfl, ?_⟩))
       go_ret
       exact ⟨by first | rfl | (simp [errW_none, errW_some] <;> rfl) | (simp [*, errW_none, errW_some] <;> rfl), by repeat (first | (with_reducible first | exact HB.out | apply below_alloc | apply eN76 | apply eD76 | refine bS76 ?_ GE475.out) | exact HB.out)⟩
     ·replace c96 := Bool.eq_false_iff.mpr c96
      subst c96
      have H1 : (some false) = some r := by rw [if_neg (show ¬ (false = true) by decide)] at H; exact H
      clear H
      have H := H1
      clear H1
      obtain rfl := Option.some.inj H
      have hcz101_0 : wr.cell? ⟨gb475, 0, none⟩ = some (.int .i64 a0_0) := (bC76 BK475.out 0).trans rfl
      have hcz101_1 : wr.cell? ⟨gb475, 1, none⟩ = some (.int .i64 a0_1) := (bC76 BK475.out 1).trans rfl
      have hcz101_2 : wr.cell? ⟨gb475, 2, none⟩ = some (.slice A0_2 l0_2.length c0_2) := (bC76 BK475.out 2).trans rfl
      have hfz101_0 := blk_frozen BK475.out 0
      have hfz101_1 := blk_frozen BK475.out 1
      have hfz101_2 := blk_frozen BK475.out 2
      go_wp2_with (first | ((with_reducible refine gate_callee (f := 92) rfl ?_); refine goesL_ (some 84) rfl rfl Try.func92 (by kernel_rfl) rfl #[.int .i64 a0_0, .int .i64 1, .int .i64 8] rfl na_ ?_; (with_reducible refine (spec_l1In.calls a0_0 1 8 false _ A95.out).mono ?_); rintro e w' ⟨rfl, ⟨nd, rfl⟩⟩; refine ⟨_, rfl, ?_⟩))
      go_ret
      exact ⟨by first | rfl | (simp [errW_none, errW_some] <;> rfl) | (simp [*, errW_none, errW_some] <;> rfl), by repeat (first | (with_reducible first | exact HB.out | apply below_alloc | apply eN76 | apply eD76 | refine bS76 ?_ GE475.out) | exact HB.out)⟩

end Go.Proofs.Ytpjmkghmjpbldaa.Print
