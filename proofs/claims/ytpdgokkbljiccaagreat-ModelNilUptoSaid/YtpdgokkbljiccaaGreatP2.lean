import Derived.Test.YtpdgokkbljiccaaGreatP1
set_option linter.unusedVariables false
set_option linter.unusedSimpArgs false
namespace Go.Am.Pu
open Go Go.Am
abbrev J1:=List Int×List Int×List Int×List Int×List Int×List Int×Int×Int×Int×Int×Int×List Int×List Int×List Int×Int×Int×Int
abbrev Sd:=Int×List Int×List Int×List Int
end Go.Am.Pu
