/- WireKnown: the law answers true: the examples of the chapter hold. No condition. -/
import Derived.Test.YtpkaonjppochoaaGreatProg
import Derived.Test.YtpkaonjppochoaaGreatRows
import Derived.ProofKit
import Derived.RowKitTokens
import Derived.ChangeVars
import Derived.JoinedOf
import Derived.Stop.Joined
import Derived.Test.YtpkaonjppochoaaGreatD
set_option linter.unusedSimpArgs false
set_option linter.unusedVariables false
set_option linter.unusedSectionVars false
set_option maxRecDepth 100000
set_option maxHeartbeats 4000000
set_option linter.unusedVariables false
noncomputable section
namespace Go.Ideal.X
open Go Go.Ideal
theorem hmix : Go.Proofs.Tryz.prog.follows .mixedOrders = true := by kernel_rfl
theorem C165 : compileFunc Go.Proofs.Tryz.prog Go.Proofs.Tryz.f165 = some (stripF f165) := by kernel_rfl
theorem C104 : compileFunc Go.Proofs.Tryz.prog Go.Proofs.Tryz.f104 = some (stripF f104) := by kernel_rfl
theorem C68 : compileFunc Go.Proofs.Tryz.prog Go.Proofs.Tryz.f68 = some (stripF f68) := by kernel_rfl
theorem C94 : compileFunc Go.Proofs.Tryz.prog Go.Proofs.Tryz.f94 = some (stripF f94) := by kernel_rfl
theorem C58 : compileFunc Go.Proofs.Tryz.prog Go.Proofs.Tryz.f58 = some (stripF f58) := by kernel_rfl
theorem C123 : compileFunc Go.Proofs.Tryz.prog Go.Proofs.Tryz.f123 = some (stripF f123) := by kernel_rfl
theorem C167 : compileFunc Go.Proofs.Tryz.prog Go.Proofs.Tryz.f167 = some (stripF f167) := by kernel_rfl
theorem C170 : compileFunc Go.Proofs.Tryz.prog Go.Proofs.Tryz.f170 = some (stripF f170) := by kernel_rfl
theorem C22 : compileFunc Go.Proofs.Tryz.prog Go.Proofs.Tryz.f22 = some (stripF f22) := by kernel_rfl
theorem C51 : compileFunc Go.Proofs.Tryz.prog Go.Proofs.Tryz.f51 = some (stripF f51) := by kernel_rfl
theorem C157 : compileFunc Go.Proofs.Tryz.prog Go.Proofs.Tryz.f157 = some (stripF f157) := by kernel_rfl
theorem C160 : compileFunc Go.Proofs.Tryz.prog Go.Proofs.Tryz.f160 = some (stripF f160) := by kernel_rfl
theorem C57 : compileFunc Go.Proofs.Tryz.prog Go.Proofs.Tryz.f57 = some (stripF f57) := by kernel_rfl
theorem C59 : compileFunc Go.Proofs.Tryz.prog Go.Proofs.Tryz.f59 = some (stripF f59) := by kernel_rfl
theorem C92 : compileFunc Go.Proofs.Tryz.prog Go.Proofs.Tryz.f92 = some (stripF f92) := by kernel_rfl
theorem C194 : compileFunc Go.Proofs.Tryz.prog Go.Proofs.Tryz.f194 = some (stripF f194) := by kernel_rfl
theorem C73 : compileFunc Go.Proofs.Tryz.prog Go.Proofs.Tryz.f73 = some (stripF f73) := by kernel_rfl
theorem C113 : compileFunc Go.Proofs.Tryz.prog Go.Proofs.Tryz.f113 = some (stripF f113) := by kernel_rfl
theorem C35 : compileFunc Go.Proofs.Tryz.prog Go.Proofs.Tryz.f35 = some (stripF f35) := by kernel_rfl
theorem C77 : compileFunc Go.Proofs.Tryz.prog Go.Proofs.Tryz.f77 = some (stripF f77) := by kernel_rfl
theorem C93 : compileFunc Go.Proofs.Tryz.prog Go.Proofs.Tryz.f93 = some (stripF f93) := by kernel_rfl
theorem C103 : compileFunc Go.Proofs.Tryz.prog Go.Proofs.Tryz.f103 = some (stripF f103) := by kernel_rfl
theorem C171 : compileFunc Go.Proofs.Tryz.prog Go.Proofs.Tryz.f171 = some (stripF f171) := by kernel_rfl
theorem C198 : compileFunc Go.Proofs.Tryz.prog Go.Proofs.Tryz.f198 = some (stripF f198) := by kernel_rfl
theorem C132 : compileFunc Go.Proofs.Tryz.prog Go.Proofs.Tryz.f132 = some (stripF f132) := by kernel_rfl
theorem C138 : compileFunc Go.Proofs.Tryz.prog Go.Proofs.Tryz.f138 = some (stripF f138) := by kernel_rfl
theorem C159 : compileFunc Go.Proofs.Tryz.prog Go.Proofs.Tryz.f159 = some (stripF f159) := by kernel_rfl
theorem C42 : compileFunc Go.Proofs.Tryz.prog Go.Proofs.Tryz.f42 = some (stripF f42) := by kernel_rfl
theorem C4 : compileFunc Go.Proofs.Tryz.prog Go.Proofs.Tryz.f4 = some (stripF f4) := by kernel_rfl
theorem C30 : compileFunc Go.Proofs.Tryz.prog Go.Proofs.Tryz.f30 = some (stripF f30) := by kernel_rfl
theorem C56 : compileFunc Go.Proofs.Tryz.prog Go.Proofs.Tryz.f56 = some (stripF f56) := by kernel_rfl
theorem C105 : compileFunc Go.Proofs.Tryz.prog Go.Proofs.Tryz.f105 = some (stripF f105) := by kernel_rfl
theorem C125 : compileFunc Go.Proofs.Tryz.prog Go.Proofs.Tryz.f125 = some (stripF f125) := by kernel_rfl
theorem C21 : compileFunc Go.Proofs.Tryz.prog Go.Proofs.Tryz.f21 = some (stripF f21) := by kernel_rfl
theorem C40 : compileFunc Go.Proofs.Tryz.prog Go.Proofs.Tryz.f40 = some (stripF f40) := by kernel_rfl
theorem C54 : compileFunc Go.Proofs.Tryz.prog Go.Proofs.Tryz.f54 = some (stripF f54) := by kernel_rfl
theorem C55 : compileFunc Go.Proofs.Tryz.prog Go.Proofs.Tryz.f55 = some (stripF f55) := by kernel_rfl
theorem C24 : compileFunc Go.Proofs.Tryz.prog Go.Proofs.Tryz.f24 = some (stripF f24) := by kernel_rfl
theorem C26 : compileFunc Go.Proofs.Tryz.prog Go.Proofs.Tryz.f26 = some (stripF f26) := by kernel_rfl
theorem C27 : compileFunc Go.Proofs.Tryz.prog Go.Proofs.Tryz.f27 = some (stripF f27) := by kernel_rfl
theorem C37 : compileFunc Go.Proofs.Tryz.prog Go.Proofs.Tryz.f37 = some (stripF f37) := by kernel_rfl
theorem C79 : compileFunc Go.Proofs.Tryz.prog Go.Proofs.Tryz.f79 = some (stripF f79) := by kernel_rfl
theorem C80 : compileFunc Go.Proofs.Tryz.prog Go.Proofs.Tryz.f80 = some (stripF f80) := by kernel_rfl
theorem C162 : compileFunc Go.Proofs.Tryz.prog Go.Proofs.Tryz.f162 = some (stripF f162) := by kernel_rfl
theorem C168 : compileFunc Go.Proofs.Tryz.prog Go.Proofs.Tryz.f168 = some (stripF f168) := by kernel_rfl
theorem C175 : compileFunc Go.Proofs.Tryz.prog Go.Proofs.Tryz.f175 = some (stripF f175) := by kernel_rfl
theorem C7 : compileFunc Go.Proofs.Tryz.prog Go.Proofs.Tryz.f7 = some (stripF f7) := by kernel_rfl
theorem C8 : compileFunc Go.Proofs.Tryz.prog Go.Proofs.Tryz.f8 = some (stripF f8) := by kernel_rfl
theorem C23 : compileFunc Go.Proofs.Tryz.prog Go.Proofs.Tryz.f23 = some (stripF f23) := by kernel_rfl
theorem C25 : compileFunc Go.Proofs.Tryz.prog Go.Proofs.Tryz.f25 = some (stripF f25) := by kernel_rfl
theorem C48 : compileFunc Go.Proofs.Tryz.prog Go.Proofs.Tryz.f48 = some (stripF f48) := by kernel_rfl
theorem C131 : compileFunc Go.Proofs.Tryz.prog Go.Proofs.Tryz.f131 = some (stripF f131) := by kernel_rfl
theorem C13 : compileFunc Go.Proofs.Tryz.prog Go.Proofs.Tryz.f13 = some (stripF f13) := by kernel_rfl
theorem C17 : compileFunc Go.Proofs.Tryz.prog Go.Proofs.Tryz.f17 = some (stripF f17) := by kernel_rfl
theorem C36 : compileFunc Go.Proofs.Tryz.prog Go.Proofs.Tryz.f36 = some (stripF f36) := by kernel_rfl
theorem C49 : compileFunc Go.Proofs.Tryz.prog Go.Proofs.Tryz.f49 = some (stripF f49) := by kernel_rfl
theorem C75 : compileFunc Go.Proofs.Tryz.prog Go.Proofs.Tryz.f75 = some (stripF f75) := by kernel_rfl
theorem C78 : compileFunc Go.Proofs.Tryz.prog Go.Proofs.Tryz.f78 = some (stripF f78) := by kernel_rfl
theorem C81 : compileFunc Go.Proofs.Tryz.prog Go.Proofs.Tryz.f81 = some (stripF f81) := by kernel_rfl
theorem C88 : compileFunc Go.Proofs.Tryz.prog Go.Proofs.Tryz.f88 = some (stripF f88) := by kernel_rfl
theorem C89 : compileFunc Go.Proofs.Tryz.prog Go.Proofs.Tryz.f89 = some (stripF f89) := by kernel_rfl
theorem C90 : compileFunc Go.Proofs.Tryz.prog Go.Proofs.Tryz.f90 = some (stripF f90) := by kernel_rfl
theorem C107 : compileFunc Go.Proofs.Tryz.prog Go.Proofs.Tryz.f107 = some (stripF f107) := by kernel_rfl
theorem C114 : compileFunc Go.Proofs.Tryz.prog Go.Proofs.Tryz.f114 = some (stripF f114) := by kernel_rfl
theorem C118 : compileFunc Go.Proofs.Tryz.prog Go.Proofs.Tryz.f118 = some (stripF f118) := by kernel_rfl
theorem C120 : compileFunc Go.Proofs.Tryz.prog Go.Proofs.Tryz.f120 = some (stripF f120) := by kernel_rfl
theorem C133 : compileFunc Go.Proofs.Tryz.prog Go.Proofs.Tryz.f133 = some (stripF f133) := by kernel_rfl
theorem C135 : compileFunc Go.Proofs.Tryz.prog Go.Proofs.Tryz.f135 = some (stripF f135) := by kernel_rfl
theorem C140 : compileFunc Go.Proofs.Tryz.prog Go.Proofs.Tryz.f140 = some (stripF f140) := by kernel_rfl
theorem C141 : compileFunc Go.Proofs.Tryz.prog Go.Proofs.Tryz.f141 = some (stripF f141) := by kernel_rfl
theorem C144 : compileFunc Go.Proofs.Tryz.prog Go.Proofs.Tryz.f144 = some (stripF f144) := by kernel_rfl
theorem C146 : compileFunc Go.Proofs.Tryz.prog Go.Proofs.Tryz.f146 = some (stripF f146) := by kernel_rfl
theorem C147 : compileFunc Go.Proofs.Tryz.prog Go.Proofs.Tryz.f147 = some (stripF f147) := by kernel_rfl
theorem C161 : compileFunc Go.Proofs.Tryz.prog Go.Proofs.Tryz.f161 = some (stripF f161) := by kernel_rfl
theorem C29 : compileFunc Go.Proofs.Tryz.prog Go.Proofs.Tryz.f29 = some (stripF f29) := by kernel_rfl
theorem C38 : compileFunc Go.Proofs.Tryz.prog Go.Proofs.Tryz.f38 = some (stripF f38) := by kernel_rfl
theorem C60 : compileFunc Go.Proofs.Tryz.prog Go.Proofs.Tryz.f60 = some (stripF f60) := by kernel_rfl
theorem C64 : compileFunc Go.Proofs.Tryz.prog Go.Proofs.Tryz.f64 = some (stripF f64) := by kernel_rfl
theorem C67 : compileFunc Go.Proofs.Tryz.prog Go.Proofs.Tryz.f67 = some (stripF f67) := by kernel_rfl
theorem C82 : compileFunc Go.Proofs.Tryz.prog Go.Proofs.Tryz.f82 = some (stripF f82) := by kernel_rfl
theorem C83 : compileFunc Go.Proofs.Tryz.prog Go.Proofs.Tryz.f83 = some (stripF f83) := by kernel_rfl
theorem C98 : compileFunc Go.Proofs.Tryz.prog Go.Proofs.Tryz.f98 = some (stripF f98) := by kernel_rfl
theorem C122 : compileFunc Go.Proofs.Tryz.prog Go.Proofs.Tryz.f122 = some (stripF f122) := by kernel_rfl
theorem C143 : compileFunc Go.Proofs.Tryz.prog Go.Proofs.Tryz.f143 = some (stripF f143) := by kernel_rfl
theorem C148 : compileFunc Go.Proofs.Tryz.prog Go.Proofs.Tryz.f148 = some (stripF f148) := by kernel_rfl
theorem C164 : compileFunc Go.Proofs.Tryz.prog Go.Proofs.Tryz.f164 = some (stripF f164) := by kernel_rfl
theorem C166 : compileFunc Go.Proofs.Tryz.prog Go.Proofs.Tryz.f166 = some (stripF f166) := by kernel_rfl
theorem C169 : compileFunc Go.Proofs.Tryz.prog Go.Proofs.Tryz.f169 = some (stripF f169) := by kernel_rfl
theorem C172 : compileFunc Go.Proofs.Tryz.prog Go.Proofs.Tryz.f172 = some (stripF f172) := by kernel_rfl
theorem C173 : compileFunc Go.Proofs.Tryz.prog Go.Proofs.Tryz.f173 = some (stripF f173) := by kernel_rfl
theorem C174 : compileFunc Go.Proofs.Tryz.prog Go.Proofs.Tryz.f174 = some (stripF f174) := by kernel_rfl
theorem C195 : compileFunc Go.Proofs.Tryz.prog Go.Proofs.Tryz.f195 = some (stripF f195) := by kernel_rfl
theorem C196 : compileFunc Go.Proofs.Tryz.prog Go.Proofs.Tryz.f196 = some (stripF f196) := by kernel_rfl
theorem C5 : compileFunc Go.Proofs.Tryz.prog Go.Proofs.Tryz.f5 = some (stripF f5) := by kernel_rfl
theorem C16 : compileFunc Go.Proofs.Tryz.prog Go.Proofs.Tryz.f16 = some (stripF f16) := by kernel_rfl
theorem C32 : compileFunc Go.Proofs.Tryz.prog Go.Proofs.Tryz.f32 = some (stripF f32) := by kernel_rfl
theorem C34 : compileFunc Go.Proofs.Tryz.prog Go.Proofs.Tryz.f34 = some (stripF f34) := by kernel_rfl
theorem C39 : compileFunc Go.Proofs.Tryz.prog Go.Proofs.Tryz.f39 = some (stripF f39) := by kernel_rfl
theorem C46 : compileFunc Go.Proofs.Tryz.prog Go.Proofs.Tryz.f46 = some (stripF f46) := by kernel_rfl
theorem C50 : compileFunc Go.Proofs.Tryz.prog Go.Proofs.Tryz.f50 = some (stripF f50) := by kernel_rfl
theorem C63 : compileFunc Go.Proofs.Tryz.prog Go.Proofs.Tryz.f63 = some (stripF f63) := by kernel_rfl
theorem C66 : compileFunc Go.Proofs.Tryz.prog Go.Proofs.Tryz.f66 = some (stripF f66) := by kernel_rfl
theorem C69 : compileFunc Go.Proofs.Tryz.prog Go.Proofs.Tryz.f69 = some (stripF f69) := by kernel_rfl
theorem C70 : compileFunc Go.Proofs.Tryz.prog Go.Proofs.Tryz.f70 = some (stripF f70) := by kernel_rfl
theorem C71 : compileFunc Go.Proofs.Tryz.prog Go.Proofs.Tryz.f71 = some (stripF f71) := by kernel_rfl
theorem C72 : compileFunc Go.Proofs.Tryz.prog Go.Proofs.Tryz.f72 = some (stripF f72) := by kernel_rfl
theorem C74 : compileFunc Go.Proofs.Tryz.prog Go.Proofs.Tryz.f74 = some (stripF f74) := by kernel_rfl
theorem C76 : compileFunc Go.Proofs.Tryz.prog Go.Proofs.Tryz.f76 = some (stripF f76) := by kernel_rfl
theorem C109 : compileFunc Go.Proofs.Tryz.prog Go.Proofs.Tryz.f109 = some (stripF f109) := by kernel_rfl
theorem C110 : compileFunc Go.Proofs.Tryz.prog Go.Proofs.Tryz.f110 = some (stripF f110) := by kernel_rfl
theorem C111 : compileFunc Go.Proofs.Tryz.prog Go.Proofs.Tryz.f111 = some (stripF f111) := by kernel_rfl
theorem C134 : compileFunc Go.Proofs.Tryz.prog Go.Proofs.Tryz.f134 = some (stripF f134) := by kernel_rfl
theorem C136 : compileFunc Go.Proofs.Tryz.prog Go.Proofs.Tryz.f136 = some (stripF f136) := by kernel_rfl
theorem C137 : compileFunc Go.Proofs.Tryz.prog Go.Proofs.Tryz.f137 = some (stripF f137) := by kernel_rfl
theorem C139 : compileFunc Go.Proofs.Tryz.prog Go.Proofs.Tryz.f139 = some (stripF f139) := by kernel_rfl
theorem C142 : compileFunc Go.Proofs.Tryz.prog Go.Proofs.Tryz.f142 = some (stripF f142) := by kernel_rfl
theorem C3 : compileFunc Go.Proofs.Tryz.prog Go.Proofs.Tryz.f3 = some (stripF f3) := by kernel_rfl
theorem C6 : compileFunc Go.Proofs.Tryz.prog Go.Proofs.Tryz.f6 = some (stripF f6) := by kernel_rfl
theorem C9 : compileFunc Go.Proofs.Tryz.prog Go.Proofs.Tryz.f9 = some (stripF f9) := by kernel_rfl
theorem C10 : compileFunc Go.Proofs.Tryz.prog Go.Proofs.Tryz.f10 = some (stripF f10) := by kernel_rfl
theorem C11 : compileFunc Go.Proofs.Tryz.prog Go.Proofs.Tryz.f11 = some (stripF f11) := by kernel_rfl
theorem C12 : compileFunc Go.Proofs.Tryz.prog Go.Proofs.Tryz.f12 = some (stripF f12) := by kernel_rfl
theorem C14 : compileFunc Go.Proofs.Tryz.prog Go.Proofs.Tryz.f14 = some (stripF f14) := by kernel_rfl
theorem C15 : compileFunc Go.Proofs.Tryz.prog Go.Proofs.Tryz.f15 = some (stripF f15) := by kernel_rfl
theorem C18 : compileFunc Go.Proofs.Tryz.prog Go.Proofs.Tryz.f18 = some (stripF f18) := by kernel_rfl
theorem C19 : compileFunc Go.Proofs.Tryz.prog Go.Proofs.Tryz.f19 = some (stripF f19) := by kernel_rfl
theorem C20 : compileFunc Go.Proofs.Tryz.prog Go.Proofs.Tryz.f20 = some (stripF f20) := by kernel_rfl
theorem C28 : compileFunc Go.Proofs.Tryz.prog Go.Proofs.Tryz.f28 = some (stripF f28) := by kernel_rfl
theorem C31 : compileFunc Go.Proofs.Tryz.prog Go.Proofs.Tryz.f31 = some (stripF f31) := by kernel_rfl
theorem C33 : compileFunc Go.Proofs.Tryz.prog Go.Proofs.Tryz.f33 = some (stripF f33) := by kernel_rfl
theorem C41 : compileFunc Go.Proofs.Tryz.prog Go.Proofs.Tryz.f41 = some (stripF f41) := by kernel_rfl
theorem C43 : compileFunc Go.Proofs.Tryz.prog Go.Proofs.Tryz.f43 = some (stripF f43) := by kernel_rfl
theorem C44 : compileFunc Go.Proofs.Tryz.prog Go.Proofs.Tryz.f44 = some (stripF f44) := by kernel_rfl
theorem C45 : compileFunc Go.Proofs.Tryz.prog Go.Proofs.Tryz.f45 = some (stripF f45) := by kernel_rfl
theorem C47 : compileFunc Go.Proofs.Tryz.prog Go.Proofs.Tryz.f47 = some (stripF f47) := by kernel_rfl
theorem C52 : compileFunc Go.Proofs.Tryz.prog Go.Proofs.Tryz.f52 = some (stripF f52) := by kernel_rfl
theorem C53 : compileFunc Go.Proofs.Tryz.prog Go.Proofs.Tryz.f53 = some (stripF f53) := by kernel_rfl
theorem C61 : compileFunc Go.Proofs.Tryz.prog Go.Proofs.Tryz.f61 = some (stripF f61) := by kernel_rfl
theorem C65 : compileFunc Go.Proofs.Tryz.prog Go.Proofs.Tryz.f65 = some (stripF f65) := by kernel_rfl
theorem C87 : compileFunc Go.Proofs.Tryz.prog Go.Proofs.Tryz.f87 = some (stripF f87) := by kernel_rfl
theorem C91 : compileFunc Go.Proofs.Tryz.prog Go.Proofs.Tryz.f91 = some (stripF f91) := by kernel_rfl
theorem C95 : compileFunc Go.Proofs.Tryz.prog Go.Proofs.Tryz.f95 = some (stripF f95) := by kernel_rfl
theorem C99 : compileFunc Go.Proofs.Tryz.prog Go.Proofs.Tryz.f99 = some (stripF f99) := by kernel_rfl
theorem C100 : compileFunc Go.Proofs.Tryz.prog Go.Proofs.Tryz.f100 = some (stripF f100) := by kernel_rfl
theorem C106 : compileFunc Go.Proofs.Tryz.prog Go.Proofs.Tryz.f106 = some (stripF f106) := by kernel_rfl
theorem C115 : compileFunc Go.Proofs.Tryz.prog Go.Proofs.Tryz.f115 = some (stripF f115) := by kernel_rfl
theorem C121 : compileFunc Go.Proofs.Tryz.prog Go.Proofs.Tryz.f121 = some (stripF f121) := by kernel_rfl
theorem C149 : compileFunc Go.Proofs.Tryz.prog Go.Proofs.Tryz.f149 = some (stripF f149) := by kernel_rfl
theorem C163 : compileFunc Go.Proofs.Tryz.prog Go.Proofs.Tryz.f163 = some (stripF f163) := by kernel_rfl
theorem C176 : compileFunc Go.Proofs.Tryz.prog Go.Proofs.Tryz.f176 = some (stripF f176) := by kernel_rfl
theorem C177 : compileFunc Go.Proofs.Tryz.prog Go.Proofs.Tryz.f177 = some (stripF f177) := by kernel_rfl
theorem okF : ∀ g cf, F g = some cf → FnOk Go.Proofs.Tryz.prog g cf := look_ok
 (List.forall_mem_cons.2 ⟨(.inl ⟨Go.Proofs.Tryz.f165, Go.Proofs.Tryz.func165, C165⟩), (List.forall_mem_cons.2 ⟨(.inl ⟨Go.Proofs.Tryz.f104, Go.Proofs.Tryz.func104, C104⟩), (List.forall_mem_cons.2 ⟨(.inl ⟨Go.Proofs.Tryz.f68, Go.Proofs.Tryz.func68, C68⟩), (List.forall_mem_cons.2 ⟨(.inl ⟨Go.Proofs.Tryz.f94, Go.Proofs.Tryz.func94, C94⟩), (List.forall_mem_cons.2 ⟨(.inl ⟨Go.Proofs.Tryz.f58, Go.Proofs.Tryz.func58, C58⟩), (List.forall_mem_cons.2 ⟨(.inl ⟨Go.Proofs.Tryz.f123, Go.Proofs.Tryz.func123, C123⟩), (List.forall_mem_cons.2 ⟨(.inl ⟨Go.Proofs.Tryz.f167, Go.Proofs.Tryz.func167, C167⟩), (List.forall_mem_cons.2 ⟨(.inl ⟨Go.Proofs.Tryz.f170, Go.Proofs.Tryz.func170, C170⟩), (List.forall_mem_cons.2 ⟨(.inl ⟨Go.Proofs.Tryz.f22, Go.Proofs.Tryz.func22, C22⟩), (List.forall_mem_cons.2 ⟨(.inl ⟨Go.Proofs.Tryz.f51, Go.Proofs.Tryz.func51, C51⟩), (List.forall_mem_cons.2 ⟨(.inl ⟨Go.Proofs.Tryz.f157, Go.Proofs.Tryz.func157, C157⟩), (List.forall_mem_cons.2 ⟨(.inl ⟨Go.Proofs.Tryz.f160, Go.Proofs.Tryz.func160, C160⟩), (List.forall_mem_cons.2 ⟨(.inl ⟨Go.Proofs.Tryz.f57, Go.Proofs.Tryz.func57, C57⟩), (List.forall_mem_cons.2 ⟨(.inl ⟨Go.Proofs.Tryz.f59, Go.Proofs.Tryz.func59, C59⟩), (List.forall_mem_cons.2 ⟨(.inl ⟨Go.Proofs.Tryz.f92, Go.Proofs.Tryz.func92, C92⟩), (List.forall_mem_cons.2 ⟨(.inl ⟨Go.Proofs.Tryz.f194, Go.Proofs.Tryz.func194, C194⟩), (List.forall_mem_cons.2 ⟨(.inl ⟨Go.Proofs.Tryz.f73, Go.Proofs.Tryz.func73, C73⟩), (List.forall_mem_cons.2 ⟨(.inl ⟨Go.Proofs.Tryz.f113, Go.Proofs.Tryz.func113, C113⟩), (List.forall_mem_cons.2 ⟨(.inl ⟨Go.Proofs.Tryz.f35, Go.Proofs.Tryz.func35, C35⟩), (List.forall_mem_cons.2 ⟨(.inl ⟨Go.Proofs.Tryz.f77, Go.Proofs.Tryz.func77, C77⟩), (List.forall_mem_cons.2 ⟨(.inl ⟨Go.Proofs.Tryz.f93, Go.Proofs.Tryz.func93, C93⟩), (List.forall_mem_cons.2 ⟨(.inl ⟨Go.Proofs.Tryz.f103, Go.Proofs.Tryz.func103, C103⟩), (List.forall_mem_cons.2 ⟨(.inl ⟨Go.Proofs.Tryz.f171, Go.Proofs.Tryz.func171, C171⟩), (List.forall_mem_cons.2 ⟨(.inl ⟨Go.Proofs.Tryz.f198, Go.Proofs.Tryz.func198, C198⟩), (List.forall_mem_cons.2 ⟨(.inl ⟨Go.Proofs.Tryz.f132, Go.Proofs.Tryz.func132, C132⟩), (List.forall_mem_cons.2 ⟨(.inl ⟨Go.Proofs.Tryz.f138, Go.Proofs.Tryz.func138, C138⟩), (List.forall_mem_cons.2 ⟨(.inl ⟨Go.Proofs.Tryz.f159, Go.Proofs.Tryz.func159, C159⟩), (List.forall_mem_cons.2 ⟨(.inl ⟨Go.Proofs.Tryz.f42, Go.Proofs.Tryz.func42, C42⟩), (List.forall_mem_cons.2 ⟨(.inl ⟨Go.Proofs.Tryz.f4, Go.Proofs.Tryz.func4, C4⟩), (List.forall_mem_cons.2 ⟨(.inl ⟨Go.Proofs.Tryz.f30, Go.Proofs.Tryz.func30, C30⟩), (List.forall_mem_cons.2 ⟨(.inl ⟨Go.Proofs.Tryz.f56, Go.Proofs.Tryz.func56, C56⟩), (List.forall_mem_cons.2 ⟨(.inl ⟨Go.Proofs.Tryz.f105, Go.Proofs.Tryz.func105, C105⟩), (List.forall_mem_cons.2 ⟨(.inl ⟨Go.Proofs.Tryz.f125, Go.Proofs.Tryz.func125, C125⟩), (List.forall_mem_cons.2 ⟨(.inl ⟨Go.Proofs.Tryz.f21, Go.Proofs.Tryz.func21, C21⟩), (List.forall_mem_cons.2 ⟨(.inl ⟨Go.Proofs.Tryz.f40, Go.Proofs.Tryz.func40, C40⟩), (List.forall_mem_cons.2 ⟨(.inl ⟨Go.Proofs.Tryz.f54, Go.Proofs.Tryz.func54, C54⟩), (List.forall_mem_cons.2 ⟨(.inl ⟨Go.Proofs.Tryz.f55, Go.Proofs.Tryz.func55, C55⟩), (List.forall_mem_cons.2 ⟨(.inl ⟨Go.Proofs.Tryz.f24, Go.Proofs.Tryz.func24, C24⟩), (List.forall_mem_cons.2 ⟨(.inl ⟨Go.Proofs.Tryz.f26, Go.Proofs.Tryz.func26, C26⟩), (List.forall_mem_cons.2 ⟨(.inl ⟨Go.Proofs.Tryz.f27, Go.Proofs.Tryz.func27, C27⟩), (List.forall_mem_cons.2 ⟨(.inl ⟨Go.Proofs.Tryz.f37, Go.Proofs.Tryz.func37, C37⟩), (List.forall_mem_cons.2 ⟨(.inl ⟨Go.Proofs.Tryz.f79, Go.Proofs.Tryz.func79, C79⟩), (List.forall_mem_cons.2 ⟨(.inl ⟨Go.Proofs.Tryz.f80, Go.Proofs.Tryz.func80, C80⟩), (List.forall_mem_cons.2 ⟨(.inl ⟨Go.Proofs.Tryz.f162, Go.Proofs.Tryz.func162, C162⟩), (List.forall_mem_cons.2 ⟨(.inl ⟨Go.Proofs.Tryz.f168, Go.Proofs.Tryz.func168, C168⟩), (List.forall_mem_cons.2 ⟨(.inl ⟨Go.Proofs.Tryz.f175, Go.Proofs.Tryz.func175, C175⟩), (List.forall_mem_cons.2 ⟨(.inl ⟨Go.Proofs.Tryz.f7, Go.Proofs.Tryz.func7, C7⟩), (List.forall_mem_cons.2 ⟨(.inl ⟨Go.Proofs.Tryz.f8, Go.Proofs.Tryz.func8, C8⟩), (List.forall_mem_cons.2 ⟨(.inl ⟨Go.Proofs.Tryz.f23, Go.Proofs.Tryz.func23, C23⟩), (List.forall_mem_cons.2 ⟨(.inl ⟨Go.Proofs.Tryz.f25, Go.Proofs.Tryz.func25, C25⟩), (List.forall_mem_cons.2 ⟨(.inl ⟨Go.Proofs.Tryz.f48, Go.Proofs.Tryz.func48, C48⟩), (List.forall_mem_cons.2 ⟨(.inl ⟨Go.Proofs.Tryz.f131, Go.Proofs.Tryz.func131, C131⟩), (List.forall_mem_cons.2 ⟨(.inl ⟨Go.Proofs.Tryz.f13, Go.Proofs.Tryz.func13, C13⟩), (List.forall_mem_cons.2 ⟨(.inl ⟨Go.Proofs.Tryz.f17, Go.Proofs.Tryz.func17, C17⟩), (List.forall_mem_cons.2 ⟨(.inl ⟨Go.Proofs.Tryz.f36, Go.Proofs.Tryz.func36, C36⟩), (List.forall_mem_cons.2 ⟨(.inl ⟨Go.Proofs.Tryz.f49, Go.Proofs.Tryz.func49, C49⟩), (List.forall_mem_cons.2 ⟨(.inl ⟨Go.Proofs.Tryz.f75, Go.Proofs.Tryz.func75, C75⟩), (List.forall_mem_cons.2 ⟨(.inl ⟨Go.Proofs.Tryz.f78, Go.Proofs.Tryz.func78, C78⟩), (List.forall_mem_cons.2 ⟨(.inl ⟨Go.Proofs.Tryz.f81, Go.Proofs.Tryz.func81, C81⟩), (List.forall_mem_cons.2 ⟨(.inl ⟨Go.Proofs.Tryz.f88, Go.Proofs.Tryz.func88, C88⟩), (List.forall_mem_cons.2 ⟨(.inl ⟨Go.Proofs.Tryz.f89, Go.Proofs.Tryz.func89, C89⟩), (List.forall_mem_cons.2 ⟨(.inl ⟨Go.Proofs.Tryz.f90, Go.Proofs.Tryz.func90, C90⟩), (List.forall_mem_cons.2 ⟨(.inl ⟨Go.Proofs.Tryz.f107, Go.Proofs.Tryz.func107, C107⟩), (List.forall_mem_cons.2 ⟨(.inl ⟨Go.Proofs.Tryz.f114, Go.Proofs.Tryz.func114, C114⟩), (List.forall_mem_cons.2 ⟨(.inl ⟨Go.Proofs.Tryz.f118, Go.Proofs.Tryz.func118, C118⟩), (List.forall_mem_cons.2 ⟨(.inl ⟨Go.Proofs.Tryz.f120, Go.Proofs.Tryz.func120, C120⟩), (List.forall_mem_cons.2 ⟨(.inl ⟨Go.Proofs.Tryz.f133, Go.Proofs.Tryz.func133, C133⟩), (List.forall_mem_cons.2 ⟨(.inl ⟨Go.Proofs.Tryz.f135, Go.Proofs.Tryz.func135, C135⟩), (List.forall_mem_cons.2 ⟨(.inl ⟨Go.Proofs.Tryz.f140, Go.Proofs.Tryz.func140, C140⟩), (List.forall_mem_cons.2 ⟨(.inl ⟨Go.Proofs.Tryz.f141, Go.Proofs.Tryz.func141, C141⟩), (List.forall_mem_cons.2 ⟨(.inl ⟨Go.Proofs.Tryz.f144, Go.Proofs.Tryz.func144, C144⟩), (List.forall_mem_cons.2 ⟨(.inl ⟨Go.Proofs.Tryz.f146, Go.Proofs.Tryz.func146, C146⟩), (List.forall_mem_cons.2 ⟨(.inl ⟨Go.Proofs.Tryz.f147, Go.Proofs.Tryz.func147, C147⟩), (List.forall_mem_cons.2 ⟨(.inl ⟨Go.Proofs.Tryz.f161, Go.Proofs.Tryz.func161, C161⟩), (List.forall_mem_cons.2 ⟨(.inl ⟨Go.Proofs.Tryz.f29, Go.Proofs.Tryz.func29, C29⟩), (List.forall_mem_cons.2 ⟨(.inl ⟨Go.Proofs.Tryz.f38, Go.Proofs.Tryz.func38, C38⟩), (List.forall_mem_cons.2 ⟨(.inl ⟨Go.Proofs.Tryz.f60, Go.Proofs.Tryz.func60, C60⟩), (List.forall_mem_cons.2 ⟨(.inl ⟨Go.Proofs.Tryz.f64, Go.Proofs.Tryz.func64, C64⟩), (List.forall_mem_cons.2 ⟨(.inl ⟨Go.Proofs.Tryz.f67, Go.Proofs.Tryz.func67, C67⟩), (List.forall_mem_cons.2 ⟨(.inl ⟨Go.Proofs.Tryz.f82, Go.Proofs.Tryz.func82, C82⟩), (List.forall_mem_cons.2 ⟨(.inl ⟨Go.Proofs.Tryz.f83, Go.Proofs.Tryz.func83, C83⟩), (List.forall_mem_cons.2 ⟨(.inl ⟨Go.Proofs.Tryz.f98, Go.Proofs.Tryz.func98, C98⟩), (List.forall_mem_cons.2 ⟨(.inl ⟨Go.Proofs.Tryz.f122, Go.Proofs.Tryz.func122, C122⟩), (List.forall_mem_cons.2 ⟨(.inl ⟨Go.Proofs.Tryz.f143, Go.Proofs.Tryz.func143, C143⟩), (List.forall_mem_cons.2 ⟨(.inl ⟨Go.Proofs.Tryz.f148, Go.Proofs.Tryz.func148, C148⟩), (List.forall_mem_cons.2 ⟨(.inl ⟨Go.Proofs.Tryz.f164, Go.Proofs.Tryz.func164, C164⟩), (List.forall_mem_cons.2 ⟨(.inl ⟨Go.Proofs.Tryz.f166, Go.Proofs.Tryz.func166, C166⟩), (List.forall_mem_cons.2 ⟨(.inl ⟨Go.Proofs.Tryz.f169, Go.Proofs.Tryz.func169, C169⟩), (List.forall_mem_cons.2 ⟨(.inl ⟨Go.Proofs.Tryz.f172, Go.Proofs.Tryz.func172, C172⟩), (List.forall_mem_cons.2 ⟨(.inl ⟨Go.Proofs.Tryz.f173, Go.Proofs.Tryz.func173, C173⟩), (List.forall_mem_cons.2 ⟨(.inl ⟨Go.Proofs.Tryz.f174, Go.Proofs.Tryz.func174, C174⟩), (List.forall_mem_cons.2 ⟨(.inl ⟨Go.Proofs.Tryz.f195, Go.Proofs.Tryz.func195, C195⟩), (List.forall_mem_cons.2 ⟨(.inl ⟨Go.Proofs.Tryz.f196, Go.Proofs.Tryz.func196, C196⟩), (List.forall_mem_cons.2 ⟨(.inl ⟨Go.Proofs.Tryz.f5, Go.Proofs.Tryz.func5, C5⟩), (List.forall_mem_cons.2 ⟨(.inl ⟨Go.Proofs.Tryz.f16, Go.Proofs.Tryz.func16, C16⟩), (List.forall_mem_cons.2 ⟨(.inl ⟨Go.Proofs.Tryz.f32, Go.Proofs.Tryz.func32, C32⟩), (List.forall_mem_cons.2 ⟨(.inl ⟨Go.Proofs.Tryz.f34, Go.Proofs.Tryz.func34, C34⟩), (List.forall_mem_cons.2 ⟨(.inl ⟨Go.Proofs.Tryz.f39, Go.Proofs.Tryz.func39, C39⟩), (List.forall_mem_cons.2 ⟨(.inl ⟨Go.Proofs.Tryz.f46, Go.Proofs.Tryz.func46, C46⟩), (List.forall_mem_cons.2 ⟨(.inl ⟨Go.Proofs.Tryz.f50, Go.Proofs.Tryz.func50, C50⟩), (List.forall_mem_cons.2 ⟨(.inl ⟨Go.Proofs.Tryz.f63, Go.Proofs.Tryz.func63, C63⟩), (List.forall_mem_cons.2 ⟨(.inl ⟨Go.Proofs.Tryz.f66, Go.Proofs.Tryz.func66, C66⟩), (List.forall_mem_cons.2 ⟨(.inl ⟨Go.Proofs.Tryz.f69, Go.Proofs.Tryz.func69, C69⟩), (List.forall_mem_cons.2 ⟨(.inl ⟨Go.Proofs.Tryz.f70, Go.Proofs.Tryz.func70, C70⟩), (List.forall_mem_cons.2 ⟨(.inl ⟨Go.Proofs.Tryz.f71, Go.Proofs.Tryz.func71, C71⟩), (List.forall_mem_cons.2 ⟨(.inl ⟨Go.Proofs.Tryz.f72, Go.Proofs.Tryz.func72, C72⟩), (List.forall_mem_cons.2 ⟨(.inl ⟨Go.Proofs.Tryz.f74, Go.Proofs.Tryz.func74, C74⟩), (List.forall_mem_cons.2 ⟨(.inl ⟨Go.Proofs.Tryz.f76, Go.Proofs.Tryz.func76, C76⟩), (List.forall_mem_cons.2 ⟨(.inl ⟨Go.Proofs.Tryz.f109, Go.Proofs.Tryz.func109, C109⟩), (List.forall_mem_cons.2 ⟨(.inl ⟨Go.Proofs.Tryz.f110, Go.Proofs.Tryz.func110, C110⟩), (List.forall_mem_cons.2 ⟨(.inl ⟨Go.Proofs.Tryz.f111, Go.Proofs.Tryz.func111, C111⟩), (List.forall_mem_cons.2 ⟨(.inl ⟨Go.Proofs.Tryz.f134, Go.Proofs.Tryz.func134, C134⟩), (List.forall_mem_cons.2 ⟨(.inl ⟨Go.Proofs.Tryz.f136, Go.Proofs.Tryz.func136, C136⟩), (List.forall_mem_cons.2 ⟨(.inl ⟨Go.Proofs.Tryz.f137, Go.Proofs.Tryz.func137, C137⟩), (List.forall_mem_cons.2 ⟨(.inl ⟨Go.Proofs.Tryz.f139, Go.Proofs.Tryz.func139, C139⟩), (List.forall_mem_cons.2 ⟨(.inl ⟨Go.Proofs.Tryz.f142, Go.Proofs.Tryz.func142, C142⟩), (List.forall_mem_cons.2 ⟨(.inl ⟨Go.Proofs.Tryz.f3, Go.Proofs.Tryz.func3, C3⟩), (List.forall_mem_cons.2 ⟨(.inl ⟨Go.Proofs.Tryz.f6, Go.Proofs.Tryz.func6, C6⟩), (List.forall_mem_cons.2 ⟨(.inl ⟨Go.Proofs.Tryz.f9, Go.Proofs.Tryz.func9, C9⟩), (List.forall_mem_cons.2 ⟨(.inl ⟨Go.Proofs.Tryz.f10, Go.Proofs.Tryz.func10, C10⟩), (List.forall_mem_cons.2 ⟨(.inl ⟨Go.Proofs.Tryz.f11, Go.Proofs.Tryz.func11, C11⟩), (List.forall_mem_cons.2 ⟨(.inl ⟨Go.Proofs.Tryz.f12, Go.Proofs.Tryz.func12, C12⟩), (List.forall_mem_cons.2 ⟨(.inl ⟨Go.Proofs.Tryz.f14, Go.Proofs.Tryz.func14, C14⟩), (List.forall_mem_cons.2 ⟨(.inl ⟨Go.Proofs.Tryz.f15, Go.Proofs.Tryz.func15, C15⟩), (List.forall_mem_cons.2 ⟨(.inl ⟨Go.Proofs.Tryz.f18, Go.Proofs.Tryz.func18, C18⟩), (List.forall_mem_cons.2 ⟨(.inl ⟨Go.Proofs.Tryz.f19, Go.Proofs.Tryz.func19, C19⟩), (List.forall_mem_cons.2 ⟨(.inl ⟨Go.Proofs.Tryz.f20, Go.Proofs.Tryz.func20, C20⟩), (List.forall_mem_cons.2 ⟨(.inl ⟨Go.Proofs.Tryz.f28, Go.Proofs.Tryz.func28, C28⟩), (List.forall_mem_cons.2 ⟨(.inl ⟨Go.Proofs.Tryz.f31, Go.Proofs.Tryz.func31, C31⟩), (List.forall_mem_cons.2 ⟨(.inl ⟨Go.Proofs.Tryz.f33, Go.Proofs.Tryz.func33, C33⟩), (List.forall_mem_cons.2 ⟨(.inl ⟨Go.Proofs.Tryz.f41, Go.Proofs.Tryz.func41, C41⟩), (List.forall_mem_cons.2 ⟨(.inl ⟨Go.Proofs.Tryz.f43, Go.Proofs.Tryz.func43, C43⟩), (List.forall_mem_cons.2 ⟨(.inl ⟨Go.Proofs.Tryz.f44, Go.Proofs.Tryz.func44, C44⟩), (List.forall_mem_cons.2 ⟨(.inr (.inr (.inr ⟨_, Go.Proofs.Tryz.f45, f45, rfl, Go.Proofs.YtpkaonjppochoaaGreat.insOk, Go.Proofs.Tryz.func45, C45⟩))), (List.forall_mem_cons.2 ⟨(.inl ⟨Go.Proofs.Tryz.f47, Go.Proofs.Tryz.func47, C47⟩), (List.forall_mem_cons.2 ⟨(.inl ⟨Go.Proofs.Tryz.f52, Go.Proofs.Tryz.func52, C52⟩), (List.forall_mem_cons.2 ⟨(.inl ⟨Go.Proofs.Tryz.f53, Go.Proofs.Tryz.func53, C53⟩), (List.forall_mem_cons.2 ⟨(.inl ⟨Go.Proofs.Tryz.f61, Go.Proofs.Tryz.func61, C61⟩), (List.forall_mem_cons.2 ⟨(.inl ⟨Go.Proofs.Tryz.f65, Go.Proofs.Tryz.func65, C65⟩), (List.forall_mem_cons.2 ⟨(.inl ⟨Go.Proofs.Tryz.f87, Go.Proofs.Tryz.func87, C87⟩), (List.forall_mem_cons.2 ⟨(.inl ⟨Go.Proofs.Tryz.f91, Go.Proofs.Tryz.func91, C91⟩), (List.forall_mem_cons.2 ⟨(.inl ⟨Go.Proofs.Tryz.f95, Go.Proofs.Tryz.func95, C95⟩), (List.forall_mem_cons.2 ⟨(.inl ⟨Go.Proofs.Tryz.f99, Go.Proofs.Tryz.func99, C99⟩), (List.forall_mem_cons.2 ⟨(.inl ⟨Go.Proofs.Tryz.f100, Go.Proofs.Tryz.func100, C100⟩), (List.forall_mem_cons.2 ⟨(.inl ⟨Go.Proofs.Tryz.f106, Go.Proofs.Tryz.func106, C106⟩), (List.forall_mem_cons.2 ⟨(.inl ⟨Go.Proofs.Tryz.f115, Go.Proofs.Tryz.func115, C115⟩), (List.forall_mem_cons.2 ⟨(.inl ⟨Go.Proofs.Tryz.f121, Go.Proofs.Tryz.func121, C121⟩), (List.forall_mem_cons.2 ⟨(.inl ⟨Go.Proofs.Tryz.f149, Go.Proofs.Tryz.func149, C149⟩), (List.forall_mem_cons.2 ⟨(.inl ⟨Go.Proofs.Tryz.f163, Go.Proofs.Tryz.func163, C163⟩), (List.forall_mem_cons.2 ⟨(.inl ⟨Go.Proofs.Tryz.f176, Go.Proofs.Tryz.func176, C176⟩), (List.forall_mem_cons.2 ⟨(.inl ⟨Go.Proofs.Tryz.f177, Go.Proofs.Tryz.func177, C177⟩), (fun _ h => by cases h)⟩)⟩)⟩)⟩)⟩)⟩)⟩)⟩)⟩)⟩)⟩)⟩)⟩)⟩)⟩)⟩)⟩)⟩)⟩)⟩)⟩)⟩)⟩)⟩)⟩)⟩)⟩)⟩)⟩)⟩)⟩)⟩)⟩)⟩)⟩)⟩)⟩)⟩)⟩)⟩)⟩)⟩)⟩)⟩)⟩)⟩)⟩)⟩)⟩)⟩)⟩)⟩)⟩)⟩)⟩)⟩)⟩)⟩)⟩)⟩)⟩)⟩)⟩)⟩)⟩)⟩)⟩)⟩)⟩)⟩)⟩)⟩)⟩)⟩)⟩)⟩)⟩)⟩)⟩)⟩)⟩)⟩)⟩)⟩)⟩)⟩)⟩)⟩)⟩)⟩)⟩)⟩)⟩)⟩)⟩)⟩)⟩)⟩)⟩)⟩)⟩)⟩)⟩)⟩)⟩)⟩)⟩)⟩)⟩)⟩)⟩)⟩)⟩)⟩)⟩)⟩)⟩)⟩)⟩)⟩)⟩)⟩)⟩)⟩)⟩)⟩)⟩)⟩)⟩)⟩)⟩)⟩)⟩)⟩)⟩)⟩)⟩)⟩)⟩)⟩)⟩)⟩)⟩)⟩)⟩)⟩)⟩)⟩)⟩)⟩)⟩)
end Go.Ideal.X
end
set_option maxRecDepth 100000
set_option maxHeartbeats 4000000
set_option linter.unusedVariables false
noncomputable section
namespace Go.Ideal.X
open Go Go.Ideal
def q34 : Piece := ⟨[], 45, [], (.bool true), 1424, []⟩
def q64 : Piece := ⟨[(.agg ⟨[(sL 55 0 1 1), (sL 62 0 11 11), (sL 56 0 1 1), (iI 0)]⟩), (.agg ⟨[(sL 93 0 2 oC), (sL 95 0 1 oC), (sL 89 0 2 oC), (sL 140 0 2 oC)]⟩), (iI 1)], 143, [(138, cL [(iI 2), (iI 0), (iI 3), (iI 0), (iI 3), (iI 1), (iI 4), (iI 1)] 2), (101, cL [(iI 2), (iI 0), (iI 3), (iI 0), (iI 3), (iI 1), (iI 4), (iI 1)] 2), (140, cL [(iI 1), (iI 2), (sL 101 0 4 oC), (iI 0), (iI 9), (sL 138 0 4 oC)] 3), (135, cL [(.slice none 0 0)] 1), (122, cL [(iI 1), (iI 2)] 2), (110, cL [(iI 1), (iI 1)] 2), (127, cL [(sL 110 0 1 oC), (sL 122 0 1 oC)] 1), (89, cL [(iI 0), (iI 0), (iI 0), (sL 127 0 2 oC), (iI 0), (iI 1), (iI 0), (sL 135 0 1 oC)] 4), (81, cL [(iI 2), (iI 0), (iI 3), (iI 0), (iI 3), (iI 1), (iI 4), (iI 1)] 2), (95, cL [(iI 0), (iI 0), (sL 81 0 4 oC)] 3), (93, cL [(iI (-1)), (.bool false), (iI 0), (.bool false)] 2), (48, cL [(iI 0), (iI 1)] 0), (49, cL [(iI 0), (sL 48 0 2 2), (iI 1)] 0), (47, cL [(iI 0), (iI 2)] 0), (46, cL [(iI 0), (iI 1), (iI 0), (iI 0)] 0), (56, cL [(sL 46 0 2 2), (sL 47 0 1 1), (sL 49 0 1 1)] 0), (54, cL [(iI 1), (iI 3), (.slice none 0 0)] 0), (61, cL [(iI 10)] 0), (60, cL [(iI 8), (iI 9)] 0), (53, cL [(iI 1), (iI 2), (.slice none 0 0)] 0), (59, cL [(iI 6), (iI 7)] 0), (52, cL [(iI 1), (iI 1), (.slice none 0 0)] 0), (58, cL [(iI 4), (iI 5)] 0), (51, cL [(iI 2), (iI 4), (.slice none 0 0)] 0), (57, cL [(iI 3)] 0), (62, cL [(iI 4), (iI 0), (.slice none 0 0), (sL 57 0 1 1), (iI 2), (iI 0), (sL 51 0 1 1), (.slice none 0 0), (iI 7), (iI 0), (.slice none 0 0), (.slice none 0 0), (iI 3), (iI 0), (.slice none 0 0), (sL 58 0 2 2), (iI 2), (iI 1), (sL 52 0 1 1), (.slice none 0 0), (iI 3), (iI 0), (.slice none 0 0), (sL 59 0 2 2), (iI 2), (iI 1), (sL 53 0 1 1), (.slice none 0 0), (iI 3), (iI 0), (.slice none 0 0), (sL 60 0 2 2), (iI 2), (iI 2), (.slice none 0 0), (.slice none 0 0), (iI 8), (iI 3), (.slice none 0 0), (sL 61 0 1 1), (iI 2), (iI 1), (sL 54 0 1 1), (.slice none 0 0)] 0), (55, cL [(.string ⟨#[111, 117, 116]⟩)] 0)], (.tuple ⟨[(.agg ⟨[(sL 422 0 1 1), (.slice none 0 0), (sL 487 0 1 oC)]⟩), (.agg ⟨[(sL 427 0 2 oC), (sL 434 0 1 oC), (sL 463 0 2 oC), (sL 494 0 1 oC)]⟩), (iI 0)]⟩), 495, [(55, cL [(.string ⟨#[111, 117, 116]⟩)] 0), (62, cL [(iI 4), (iI 0), (.slice none 0 0), (sL 57 0 1 1), (iI 2), (iI 0), (sL 51 0 1 1), (.slice none 0 0), (iI 7), (iI 0), (.slice none 0 0), (.slice none 0 0), (iI 3), (iI 0), (.slice none 0 0), (sL 58 0 2 2), (iI 2), (iI 1), (sL 52 0 1 1), (.slice none 0 0), (iI 3), (iI 0), (.slice none 0 0), (sL 59 0 2 2), (iI 2), (iI 1), (sL 53 0 1 1), (.slice none 0 0), (iI 3), (iI 0), (.slice none 0 0), (sL 60 0 2 2), (iI 2), (iI 2), (.slice none 0 0), (.slice none 0 0), (iI 8), (iI 3), (.slice none 0 0), (sL 61 0 1 1), (iI 2), (iI 1), (sL 54 0 1 1), (.slice none 0 0)] 0), (57, cL [(iI 3)] 0), (51, cL [(iI 2), (iI 4), (.slice none 0 0)] 0), (58, cL [(iI 4), (iI 5)] 0), (52, cL [(iI 1), (iI 1), (.slice none 0 0)] 0), (59, cL [(iI 6), (iI 7)] 0), (53, cL [(iI 1), (iI 2), (.slice none 0 0)] 0), (60, cL [(iI 8), (iI 9)] 0), (61, cL [(iI 10)] 0), (54, cL [(iI 1), (iI 3), (.slice none 0 0)] 0), (56, cL [(sL 46 0 2 2), (sL 47 0 1 1), (sL 49 0 1 1)] 0), (46, cL [(iI 0), (iI 1), (iI 0), (iI 0)] 0), (47, cL [(iI 0), (iI 2)] 0), (49, cL [(iI 0), (sL 48 0 2 2), (iI 1)] 0), (48, cL [(iI 0), (iI 1)] 0), (93, cL [(iI (-1)), (.bool false), (iI 0), (.bool false)] 2), (95, cL [(iI 0), (iI 0), (sL 81 0 4 oC)] 3), (81, cL [(iI 2), (iI 0), (iI 3), (iI 0), (iI 3), (iI 1), (iI 4), (iI 1)] 2), (89, cL [(iI 0), (iI 0), (iI 0), (sL 127 0 2 oC), (iI 0), (iI 1), (iI 0), (sL 135 0 1 oC)] 4), (127, cL [(sL 110 0 1 oC), (sL 122 0 1 oC)] 1), (110, cL [(iI 1), (iI 1)] 2), (122, cL [(iI 1), (iI 2)] 2), (135, cL [(.slice none 0 0)] 1), (140, cL [(iI 1), (iI 2), (sL 101 0 4 oC), (iI 0), (iI 9), (sL 138 0 4 oC)] 3), (101, cL [(iI 2), (iI 0), (iI 3), (iI 0), (iI 3), (iI 1), (iI 4), (iI 1)] 2), (138, cL [(iI 2), (iI 0), (iI 3), (iI 0), (iI 3), (iI 1), (iI 4), (iI 1)] 2), (492, cL [(iI 2), (iI 0), (iI 3), (iI 0), (iI 3), (iI 1), (iI 4), (iI 1)] 2), (494, cL [(iI 0), (iI 9), (sL 492 0 4 oC)] 3), (461, cL [(.slice none 0 0)] 1), (449, cL [(iI 1), (iI 2)] 2), (442, cL [(iI 1), (iI 1)] 2), (451, cL [(sL 442 0 1 oC), (sL 449 0 1 oC)] 1), (463, cL [(iI 0), (iI 0), (iI 0), (sL 451 0 2 oC), (iI 0), (iI 1), (iI 0), (sL 461 0 1 oC)] 4), (432, cL [(iI 2), (iI 0), (iI 3), (iI 0), (iI 3), (iI 1), (iI 4), (iI 1)] 2), (434, cL [(iI 0), (iI 0), (sL 432 0 4 oC)] 3), (427, cL [(iI (-1)), (.bool false), (iI 0), (.bool false)] 2), (485, cL [(iI 2), (iI 0), (iI 3), (iI 0), (iI 3), (iI 1), (iI 4), (iI 1)] 2), (487, cL [(iI 0), (iI 1), (iI 2), (sL 485 0 4 oC)] 4), (422, cL [(iI 1)] 0)]⟩
def q361 : Piece := ⟨[(.agg ⟨[(sL 422 0 1 1), (.slice none 0 0), (sL 487 0 1 oC)]⟩)], 497, [(485, cL [(iI 2), (iI 0), (iI 3), (iI 0), (iI 3), (iI 1), (iI 4), (iI 1)] 2), (487, cL [(iI 0), (iI 1), (iI 2), (sL 485 0 4 oC)] 4), (422, cL [(iI 1)] 0)], (.tuple ⟨[(.string ⟨#[80, 4, 4, 1, 2, 0, 3, 0, 3, 1, 1, 0, 0, 1, 0, 0, 2, 4, 3, 5, 7, 1, 91, 132]⟩), (iI 0)]⟩), 592, [(422, cL [(iI 1)] 0), (487, cL [(iI 0), (iI 1), (iI 2), (sL 485 0 4 oC)] 4), (485, cL [(iI 2), (iI 0), (iI 3), (iI 0), (iI 3), (iI 1), (iI 4), (iI 1)] 2)]⟩
def q443 : Piece := ⟨[(.string ⟨#[80, 4, 4, 1, 2, 0, 3, 0, 3, 1, 1, 0, 0, 1, 0, 0, 2, 4, 3, 5, 7, 1, 91, 132]⟩)], 592, [], (.tuple ⟨[(.agg ⟨[(sL 612 0 1 oC), (.slice none 0 0), (sL 629 0 1 oC)]⟩), (iI 0)]⟩), 724, [(627, cL [(iI 2), (iI 0), (iI 3), (iI 0), (iI 3), (iI 1), (iI 4), (iI 1)] 2), (629, cL [(iI 0), (iI 1), (iI 2), (sL 627 0 4 oC)] 4), (612, cL [(iI 1)] 1)]⟩
def q516 : Piece := ⟨[(.agg ⟨[(sL 612 0 1 oC), (.slice none 0 0), (sL 629 0 1 oC)]⟩)], 652, [(627, cL [(iI 2), (iI 0), (iI 3), (iI 0), (iI 3), (iI 1), (iI 4), (iI 1)] 2), (629, cL [(iI 0), (iI 1), (iI 2), (sL 627 0 4 oC)] 4), (612, cL [(iI 1)] 1)], (.string ⟨#[80, 4, 4, 1, 2, 0, 3, 0, 3, 1, 1, 0, 0, 1, 0, 0, 2, 4, 3, 5, 7, 1, 91, 132]⟩), 724, [(612, cL [(iI 1)] 1), (629, cL [(iI 0), (iI 1), (iI 2), (sL 627 0 4 oC)] 4), (627, cL [(iI 2), (iI 0), (iI 3), (iI 0), (iI 3), (iI 1), (iI 4), (iI 1)] 2)]⟩
def q564 : Piece := ⟨[(.agg ⟨[(sL 55 0 1 1), (sL 62 0 11 11), (sL 56 0 1 1), (iI 0)]⟩), (.agg ⟨[(sL 427 0 2 oC), (sL 434 0 1 oC), (sL 463 0 2 oC), (sL 494 0 1 oC)]⟩), (.agg ⟨[(sL 612 0 1 oC), (.slice none 0 0), (sL 629 0 1 oC)]⟩)], 725, [(627, cL [(iI 2), (iI 0), (iI 3), (iI 0), (iI 3), (iI 1), (iI 4), (iI 1)] 2), (629, cL [(iI 0), (iI 1), (iI 2), (sL 627 0 4 oC)] 4), (612, cL [(iI 1)] 1), (492, cL [(iI 2), (iI 0), (iI 3), (iI 0), (iI 3), (iI 1), (iI 4), (iI 1)] 2), (494, cL [(iI 0), (iI 9), (sL 492 0 4 oC)] 3), (461, cL [(.slice none 0 0)] 1), (449, cL [(iI 1), (iI 2)] 2), (442, cL [(iI 1), (iI 1)] 2), (451, cL [(sL 442 0 1 oC), (sL 449 0 1 oC)] 1), (463, cL [(iI 0), (iI 0), (iI 0), (sL 451 0 2 oC), (iI 0), (iI 1), (iI 0), (sL 461 0 1 oC)] 4), (432, cL [(iI 2), (iI 0), (iI 3), (iI 0), (iI 3), (iI 1), (iI 4), (iI 1)] 2), (434, cL [(iI 0), (iI 0), (sL 432 0 4 oC)] 3), (427, cL [(iI (-1)), (.bool false), (iI 0), (.bool false)] 2), (48, cL [(iI 0), (iI 1)] 0), (49, cL [(iI 0), (sL 48 0 2 2), (iI 1)] 0), (47, cL [(iI 0), (iI 2)] 0), (46, cL [(iI 0), (iI 1), (iI 0), (iI 0)] 0), (56, cL [(sL 46 0 2 2), (sL 47 0 1 1), (sL 49 0 1 1)] 0), (54, cL [(iI 1), (iI 3), (.slice none 0 0)] 0), (61, cL [(iI 10)] 0), (60, cL [(iI 8), (iI 9)] 0), (53, cL [(iI 1), (iI 2), (.slice none 0 0)] 0), (59, cL [(iI 6), (iI 7)] 0), (52, cL [(iI 1), (iI 1), (.slice none 0 0)] 0), (58, cL [(iI 4), (iI 5)] 0), (51, cL [(iI 2), (iI 4), (.slice none 0 0)] 0), (57, cL [(iI 3)] 0), (62, cL [(iI 4), (iI 0), (.slice none 0 0), (sL 57 0 1 1), (iI 2), (iI 0), (sL 51 0 1 1), (.slice none 0 0), (iI 7), (iI 0), (.slice none 0 0), (.slice none 0 0), (iI 3), (iI 0), (.slice none 0 0), (sL 58 0 2 2), (iI 2), (iI 1), (sL 52 0 1 1), (.slice none 0 0), (iI 3), (iI 0), (.slice none 0 0), (sL 59 0 2 2), (iI 2), (iI 1), (sL 53 0 1 1), (.slice none 0 0), (iI 3), (iI 0), (.slice none 0 0), (sL 60 0 2 2), (iI 2), (iI 2), (.slice none 0 0), (.slice none 0 0), (iI 8), (iI 3), (.slice none 0 0), (sL 61 0 1 1), (iI 2), (iI 1), (sL 54 0 1 1), (.slice none 0 0)] 0), (55, cL [(.string ⟨#[111, 117, 116]⟩)] 0)], (.tuple ⟨[(.agg ⟨[(sL 1097 0 2 oC), (sL 1104 0 1 oC), (sL 1133 0 2 oC), (sL 1148 0 2 oC)]⟩), (iI 0)]⟩), 1149, [(55, cL [(.string ⟨#[111, 117, 116]⟩)] 0), (62, cL [(iI 4), (iI 0), (.slice none 0 0), (sL 57 0 1 1), (iI 2), (iI 0), (sL 51 0 1 1), (.slice none 0 0), (iI 7), (iI 0), (.slice none 0 0), (.slice none 0 0), (iI 3), (iI 0), (.slice none 0 0), (sL 58 0 2 2), (iI 2), (iI 1), (sL 52 0 1 1), (.slice none 0 0), (iI 3), (iI 0), (.slice none 0 0), (sL 59 0 2 2), (iI 2), (iI 1), (sL 53 0 1 1), (.slice none 0 0), (iI 3), (iI 0), (.slice none 0 0), (sL 60 0 2 2), (iI 2), (iI 2), (.slice none 0 0), (.slice none 0 0), (iI 8), (iI 3), (.slice none 0 0), (sL 61 0 1 1), (iI 2), (iI 1), (sL 54 0 1 1), (.slice none 0 0)] 0), (57, cL [(iI 3)] 0), (51, cL [(iI 2), (iI 4), (.slice none 0 0)] 0), (58, cL [(iI 4), (iI 5)] 0), (52, cL [(iI 1), (iI 1), (.slice none 0 0)] 0), (59, cL [(iI 6), (iI 7)] 0), (53, cL [(iI 1), (iI 2), (.slice none 0 0)] 0), (60, cL [(iI 8), (iI 9)] 0), (61, cL [(iI 10)] 0), (54, cL [(iI 1), (iI 3), (.slice none 0 0)] 0), (56, cL [(sL 46 0 2 2), (sL 47 0 1 1), (sL 49 0 1 1)] 0), (46, cL [(iI 0), (iI 1), (iI 0), (iI 0)] 0), (47, cL [(iI 0), (iI 2)] 0), (49, cL [(iI 0), (sL 48 0 2 2), (iI 1)] 0), (48, cL [(iI 0), (iI 1)] 0), (427, cL [(iI (-1)), (.bool false), (iI 0), (.bool false)] 2), (434, cL [(iI 0), (iI 0), (sL 432 0 4 oC)] 3), (432, cL [(iI 2), (iI 0), (iI 3), (iI 0), (iI 3), (iI 1), (iI 4), (iI 1)] 2), (463, cL [(iI 0), (iI 0), (iI 0), (sL 451 0 2 oC), (iI 0), (iI 1), (iI 0), (sL 461 0 1 oC)] 4), (451, cL [(sL 442 0 1 oC), (sL 449 0 1 oC)] 1), (442, cL [(iI 1), (iI 1)] 2), (449, cL [(iI 1), (iI 2)] 2), (461, cL [(.slice none 0 0)] 1), (494, cL [(iI 0), (iI 9), (sL 492 0 4 oC)] 3), (492, cL [(iI 2), (iI 0), (iI 3), (iI 0), (iI 3), (iI 1), (iI 4), (iI 1)] 2), (612, cL [(iI 1)] 1), (629, cL [(iI 0), (iI 1), (iI 2), (sL 627 0 4 oC)] 4), (627, cL [(iI 2), (iI 0), (iI 3), (iI 0), (iI 3), (iI 1), (iI 4), (iI 1)] 2), (1138, cL [(iI 2), (iI 0), (iI 3), (iI 0), (iI 3), (iI 1), (iI 4), (iI 1)] 2), (1146, cL [(iI 2), (iI 0), (iI 3), (iI 0), (iI 3), (iI 1), (iI 4), (iI 1)] 2), (1148, cL [(iI 1), (iI 2), (sL 1146 0 4 oC), (iI 0), (iI 9), (sL 1138 0 4 oC)] 3), (1131, cL [(.slice none 0 0)] 1), (1119, cL [(iI 1), (iI 2)] 2), (1112, cL [(iI 1), (iI 1)] 2), (1121, cL [(sL 1112 0 1 oC), (sL 1119 0 1 oC)] 1), (1133, cL [(iI 0), (iI 0), (iI 0), (sL 1121 0 2 oC), (iI 0), (iI 1), (iI 0), (sL 1131 0 1 oC)] 4), (1102, cL [(iI 2), (iI 0), (iI 3), (iI 0), (iI 3), (iI 1), (iI 4), (iI 1)] 2), (1104, cL [(iI 0), (iI 0), (sL 1102 0 4 oC)] 3), (1097, cL [(iI (-1)), (.bool false), (iI 0), (.bool false)] 2)]⟩
def q565 : Piece := ⟨[(.agg ⟨[(sL 55 0 1 1), (sL 62 0 11 11), (sL 56 0 1 1), (iI 0)]⟩), (.agg ⟨[(sL 427 0 2 oC), (sL 434 0 1 oC), (sL 463 0 2 oC), (sL 494 0 1 oC)]⟩)], 729, [(492, cL [(iI 2), (iI 0), (iI 3), (iI 0), (iI 3), (iI 1), (iI 4), (iI 1)] 2), (494, cL [(iI 0), (iI 9), (sL 492 0 4 oC)] 3), (461, cL [(.slice none 0 0)] 1), (449, cL [(iI 1), (iI 2)] 2), (442, cL [(iI 1), (iI 1)] 2), (451, cL [(sL 442 0 1 oC), (sL 449 0 1 oC)] 1), (463, cL [(iI 0), (iI 0), (iI 0), (sL 451 0 2 oC), (iI 0), (iI 1), (iI 0), (sL 461 0 1 oC)] 4), (432, cL [(iI 2), (iI 0), (iI 3), (iI 0), (iI 3), (iI 1), (iI 4), (iI 1)] 2), (434, cL [(iI 0), (iI 0), (sL 432 0 4 oC)] 3), (427, cL [(iI (-1)), (.bool false), (iI 0), (.bool false)] 2), (48, cL [(iI 0), (iI 1)] 0), (49, cL [(iI 0), (sL 48 0 2 2), (iI 1)] 0), (47, cL [(iI 0), (iI 2)] 0), (46, cL [(iI 0), (iI 1), (iI 0), (iI 0)] 0), (56, cL [(sL 46 0 2 2), (sL 47 0 1 1), (sL 49 0 1 1)] 0), (54, cL [(iI 1), (iI 3), (.slice none 0 0)] 0), (61, cL [(iI 10)] 0), (60, cL [(iI 8), (iI 9)] 0), (53, cL [(iI 1), (iI 2), (.slice none 0 0)] 0), (59, cL [(iI 6), (iI 7)] 0), (52, cL [(iI 1), (iI 1), (.slice none 0 0)] 0), (58, cL [(iI 4), (iI 5)] 0), (51, cL [(iI 2), (iI 4), (.slice none 0 0)] 0), (57, cL [(iI 3)] 0), (62, cL [(iI 4), (iI 0), (.slice none 0 0), (sL 57 0 1 1), (iI 2), (iI 0), (sL 51 0 1 1), (.slice none 0 0), (iI 7), (iI 0), (.slice none 0 0), (.slice none 0 0), (iI 3), (iI 0), (.slice none 0 0), (sL 58 0 2 2), (iI 2), (iI 1), (sL 52 0 1 1), (.slice none 0 0), (iI 3), (iI 0), (.slice none 0 0), (sL 59 0 2 2), (iI 2), (iI 1), (sL 53 0 1 1), (.slice none 0 0), (iI 3), (iI 0), (.slice none 0 0), (sL 60 0 2 2), (iI 2), (iI 2), (.slice none 0 0), (.slice none 0 0), (iI 8), (iI 3), (.slice none 0 0), (sL 61 0 1 1), (iI 2), (iI 1), (sL 54 0 1 1), (.slice none 0 0)] 0), (55, cL [(.string ⟨#[111, 117, 116]⟩)] 0)], (iI 0), 966, [(55, cL [(.string ⟨#[111, 117, 116]⟩)] 0), (62, cL [(iI 4), (iI 0), (.slice none 0 0), (sL 57 0 1 1), (iI 2), (iI 0), (sL 51 0 1 1), (.slice none 0 0), (iI 7), (iI 0), (.slice none 0 0), (.slice none 0 0), (iI 3), (iI 0), (.slice none 0 0), (sL 58 0 2 2), (iI 2), (iI 1), (sL 52 0 1 1), (.slice none 0 0), (iI 3), (iI 0), (.slice none 0 0), (sL 59 0 2 2), (iI 2), (iI 1), (sL 53 0 1 1), (.slice none 0 0), (iI 3), (iI 0), (.slice none 0 0), (sL 60 0 2 2), (iI 2), (iI 2), (.slice none 0 0), (.slice none 0 0), (iI 8), (iI 3), (.slice none 0 0), (sL 61 0 1 1), (iI 2), (iI 1), (sL 54 0 1 1), (.slice none 0 0)] 0), (57, cL [(iI 3)] 0), (51, cL [(iI 2), (iI 4), (.slice none 0 0)] 0), (58, cL [(iI 4), (iI 5)] 0), (52, cL [(iI 1), (iI 1), (.slice none 0 0)] 0), (59, cL [(iI 6), (iI 7)] 0), (53, cL [(iI 1), (iI 2), (.slice none 0 0)] 0), (60, cL [(iI 8), (iI 9)] 0), (61, cL [(iI 10)] 0), (54, cL [(iI 1), (iI 3), (.slice none 0 0)] 0), (56, cL [(sL 46 0 2 2), (sL 47 0 1 1), (sL 49 0 1 1)] 0), (46, cL [(iI 0), (iI 1), (iI 0), (iI 0)] 0), (47, cL [(iI 0), (iI 2)] 0), (49, cL [(iI 0), (sL 48 0 2 2), (iI 1)] 0), (48, cL [(iI 0), (iI 1)] 0), (427, cL [(iI (-1)), (.bool false), (iI 0), (.bool false)] 2), (434, cL [(iI 0), (iI 0), (sL 432 0 4 oC)] 3), (432, cL [(iI 2), (iI 0), (iI 3), (iI 0), (iI 3), (iI 1), (iI 4), (iI 1)] 2), (463, cL [(iI 0), (iI 0), (iI 0), (sL 451 0 2 oC), (iI 0), (iI 1), (iI 0), (sL 461 0 1 oC)] 4), (451, cL [(sL 442 0 1 oC), (sL 449 0 1 oC)] 1), (442, cL [(iI 1), (iI 1)] 2), (449, cL [(iI 1), (iI 2)] 2), (461, cL [(.slice none 0 0)] 1), (494, cL [(iI 0), (iI 9), (sL 492 0 4 oC)] 3), (492, cL [(iI 2), (iI 0), (iI 3), (iI 0), (iI 3), (iI 1), (iI 4), (iI 1)] 2)]⟩
def q1042 : Piece := ⟨[(.string ⟨#[77, 1, 3, 0, 0, 2, 4, 1, 85, 142]⟩)], 1194, [], (.tuple ⟨[(.agg ⟨[(iI 0), (sL 1209 0 2 oC)]⟩), (iI 0)]⟩), 1247, [(1209, cL [(iI 1), (iI 1), (iI 3), (iI 0)] 2)]⟩
def q1091 : Piece := ⟨[(.string ⟨#[77, 1, 3, 0, 0, 2, 4, 1, 85, 142]⟩)], 1248, [], (.tuple ⟨[(sL 1311 0 1 oC), (iI 0)]⟩), 1312, [(1311, cL [(iI 3), (iI 0)] 2)]⟩
def q1158 : Piece := ⟨[(.string ⟨#[77, 1, 3, 0, 0, 2, 4, 1, 85, 142]⟩)], 1321, [], (.tuple ⟨[(sL 1384 0 1 oC), (.string ⟨#[0, 2, 4, 1]⟩), (iI 0)]⟩), 1385, [(1384, cL [(iI 3), (iI 0)] 2)]⟩
end Go.Ideal.X
end
set_option maxRecDepth 100000
set_option maxHeartbeats 4000000
set_option linter.unusedVariables false
noncomputable section
namespace Go.Ideal.X
open Go Go.Ideal
def F34 : FuncId → Option CFunc := overF [(11, primW (piecesV [q64]) f11), (12, primW (piecesV [q361]) f12), (13, primW (piecesV [q443]) f13), (14, primW (piecesV [q564]) f14), (17, primW (piecesV [q1042]) f17), (18, primW (piecesV [q1091]) f18), (50, primW (piecesV [q1158]) f50)] F
theorem r34 : q34.runs F34 100000 6 = true := by kernel_rfl
theorem g34 : q34.good = true := by kernel_rfl
end Go.Ideal.X
end
set_option maxRecDepth 100000
set_option maxHeartbeats 4000000
set_option linter.unusedVariables false
noncomputable section
namespace Go.Ideal.X
open Go Go.Ideal
def F64 : FuncId → Option CFunc := F
theorem r64 : q64.runs F64 100000 11 = true := by kernel_rfl
theorem g64 : q64.good = true := by kernel_rfl
end Go.Ideal.X
end
set_option maxRecDepth 100000
set_option maxHeartbeats 4000000
set_option linter.unusedVariables false
noncomputable section
namespace Go.Ideal.X
open Go Go.Ideal
def F361 : FuncId → Option CFunc := F
theorem r361 : q361.runs F361 100000 12 = true := by kernel_rfl
theorem g361 : q361.good = true := by kernel_rfl
end Go.Ideal.X
end
set_option maxRecDepth 100000
set_option maxHeartbeats 4000000
set_option linter.unusedVariables false
noncomputable section
namespace Go.Ideal.X
open Go Go.Ideal
def F443 : FuncId → Option CFunc := overF [(39, primW (piecesV [q516]) f39)] F
theorem r443 : q443.runs F443 100000 13 = true := by kernel_rfl
theorem g443 : q443.good = true := by kernel_rfl
end Go.Ideal.X
end
set_option maxRecDepth 100000
set_option maxHeartbeats 4000000
set_option linter.unusedVariables false
noncomputable section
namespace Go.Ideal.X
open Go Go.Ideal
def F516 : FuncId → Option CFunc := F
theorem r516 : q516.runs F516 100000 39 = true := by kernel_rfl
theorem g516 : q516.good = true := by kernel_rfl
end Go.Ideal.X
end
set_option maxRecDepth 100000
set_option maxHeartbeats 4000000
set_option linter.unusedVariables false
noncomputable section
namespace Go.Ideal.X
open Go Go.Ideal
def F564 : FuncId → Option CFunc := overF [(32, primW (piecesV [q565]) f32)] F
theorem r564 : q564.runs F564 100000 14 = true := by kernel_rfl
theorem g564 : q564.good = true := by kernel_rfl
end Go.Ideal.X
end
set_option maxRecDepth 100000
set_option maxHeartbeats 4000000
set_option linter.unusedVariables false
noncomputable section
namespace Go.Ideal.X
open Go Go.Ideal
def F565 : FuncId → Option CFunc := F
theorem r565 : q565.runs F565 100000 32 = true := by kernel_rfl
theorem g565 : q565.good = true := by kernel_rfl
end Go.Ideal.X
end
set_option maxRecDepth 100000
set_option maxHeartbeats 4000000
set_option linter.unusedVariables false
noncomputable section
namespace Go.Ideal.X
open Go Go.Ideal
def F1042 : FuncId → Option CFunc := F
theorem r1042 : q1042.runs F1042 100000 17 = true := by kernel_rfl
theorem g1042 : q1042.good = true := by kernel_rfl
end Go.Ideal.X
end
set_option maxRecDepth 100000
set_option maxHeartbeats 4000000
set_option linter.unusedVariables false
noncomputable section
namespace Go.Ideal.X
open Go Go.Ideal
def F1091 : FuncId → Option CFunc := F
theorem r1091 : q1091.runs F1091 100000 18 = true := by kernel_rfl
theorem g1091 : q1091.good = true := by kernel_rfl
end Go.Ideal.X
end
set_option maxRecDepth 100000
set_option maxHeartbeats 4000000
set_option linter.unusedVariables false
noncomputable section
namespace Go.Ideal.X
open Go Go.Ideal
def F1158 : FuncId → Option CFunc := F
theorem r1158 : q1158.runs F1158 100000 50 = true := by kernel_rfl
theorem g1158 : q1158.good = true := by kernel_rfl
end Go.Ideal.X
end
set_option maxRecDepth 100000
set_option maxHeartbeats 4000000
set_option linter.unusedVariables false
noncomputable section
namespace Go.Ideal.X
open Go Go.Ideal
def F0 : FuncId → Option CFunc := overF [(6, primW (piecesV [q34]) f6)] F
theorem r0 : endsTrue (E F0 100000 (.call (.func (.func 3) #[] #[]) [] .empty)) = true := by kernel_rfl
end Go.Ideal.X
end
set_option maxRecDepth 100000
set_option maxHeartbeats 4000000
set_option linter.unusedVariables false
noncomputable section
namespace Go.Ideal.X
open Go Go.Ideal
theorem ok1158 : ∀ g cf, F1158 g = some cf → FnOk Go.Proofs.Tryz.prog g cf := okF
theorem ok1091 : ∀ g cf, F1091 g = some cf → FnOk Go.Proofs.Tryz.prog g cf := okF
theorem ok1042 : ∀ g cf, F1042 g = some cf → FnOk Go.Proofs.Tryz.prog g cf := okF
theorem ok565 : ∀ g cf, F565 g = some cf → FnOk Go.Proofs.Tryz.prog g cf := okF
theorem ok564 : ∀ g cf, F564 g = some cf → FnOk Go.Proofs.Tryz.prog g cf := over_ok (List.forall_mem_cons.2 ⟨pieces_ok hmix Go.Proofs.Tryz.func32 C32 (List.forall_mem_cons.2 ⟨⟨g565, F565, 100000, ok565, r565⟩, (fun _ h => by cases h)⟩), (fun _ h => by cases h)⟩) okF
theorem ok516 : ∀ g cf, F516 g = some cf → FnOk Go.Proofs.Tryz.prog g cf := okF
theorem ok443 : ∀ g cf, F443 g = some cf → FnOk Go.Proofs.Tryz.prog g cf := over_ok (List.forall_mem_cons.2 ⟨pieces_ok hmix Go.Proofs.Tryz.func39 C39 (List.forall_mem_cons.2 ⟨⟨g516, F516, 100000, ok516, r516⟩, (fun _ h => by cases h)⟩), (fun _ h => by cases h)⟩) okF
theorem ok361 : ∀ g cf, F361 g = some cf → FnOk Go.Proofs.Tryz.prog g cf := okF
theorem ok64 : ∀ g cf, F64 g = some cf → FnOk Go.Proofs.Tryz.prog g cf := okF
theorem ok34 : ∀ g cf, F34 g = some cf → FnOk Go.Proofs.Tryz.prog g cf := over_ok (List.forall_mem_cons.2 ⟨pieces_ok hmix Go.Proofs.Tryz.func11 C11 (List.forall_mem_cons.2 ⟨⟨g64, F64, 100000, ok64, r64⟩, (fun _ h => by cases h)⟩), (List.forall_mem_cons.2 ⟨pieces_ok hmix Go.Proofs.Tryz.func12 C12 (List.forall_mem_cons.2 ⟨⟨g361, F361, 100000, ok361, r361⟩, (fun _ h => by cases h)⟩), (List.forall_mem_cons.2 ⟨pieces_ok hmix Go.Proofs.Tryz.func13 C13 (List.forall_mem_cons.2 ⟨⟨g443, F443, 100000, ok443, r443⟩, (fun _ h => by cases h)⟩), (List.forall_mem_cons.2 ⟨pieces_ok hmix Go.Proofs.Tryz.func14 C14 (List.forall_mem_cons.2 ⟨⟨g564, F564, 100000, ok564, r564⟩, (fun _ h => by cases h)⟩), (List.forall_mem_cons.2 ⟨pieces_ok hmix Go.Proofs.Tryz.func17 C17 (List.forall_mem_cons.2 ⟨⟨g1042, F1042, 100000, ok1042, r1042⟩, (fun _ h => by cases h)⟩), (List.forall_mem_cons.2 ⟨pieces_ok hmix Go.Proofs.Tryz.func18 C18 (List.forall_mem_cons.2 ⟨⟨g1091, F1091, 100000, ok1091, r1091⟩, (fun _ h => by cases h)⟩), (List.forall_mem_cons.2 ⟨pieces_ok hmix Go.Proofs.Tryz.func50 C50 (List.forall_mem_cons.2 ⟨⟨g1158, F1158, 100000, ok1158, r1158⟩, (fun _ h => by cases h)⟩), (fun _ h => by cases h)⟩)⟩)⟩)⟩)⟩)⟩)⟩) okF
theorem ok0 : ∀ g cf, F0 g = some cf → FnOk Go.Proofs.Tryz.prog g cf := over_ok (List.forall_mem_cons.2 ⟨pieces_ok hmix Go.Proofs.Tryz.func6 C6 (List.forall_mem_cons.2 ⟨⟨g34, F34, 100000, ok34, r34⟩, (fun _ h => by cases h)⟩), (fun _ h => by cases h)⟩) okF
theorem law_calls (W : World) : Calls Go.Proofs.Tryz.prog 3 #[] W fun e W' => e = .returned (.bool true) ∧ Same W W' := by
 obtain ⟨h', e⟩ := endsTrue_some r0
 exact calls_closed hmix ok0 e W
end Go.Ideal.X
end
/- WireKnown: the law answers true: the examples of the chapter hold. No condition. -/
set_option maxRecDepth 100000
set_option maxHeartbeats 4000000
set_option linter.unusedVariables false
namespace Go.Proofs.YtpkaonjppochoaaGreat
open Go.ChangeShapes Go.WideShapes Go.RowKit Go.Ideal
theorem own : ownKnob Tryz.prog.godebug = none := by kernel_rfl
theorem laidOut : laidOutB Tryz.prog = true := by kernel_rfl
theorem law_lifted (os : Os) (started : os.Started) (H : Type) (enc : TypeId × Value → H) :
    ReturnsInHanded {} Tryz.checked os 3 .any (Rows.wireKnownSpec.pre6 enc Tryz.prog Tryz.f3 Rows.wireKnownRow.domain false) (Rows.wireKnownSpec.post enc Tryz.prog Tryz.f3 false true false false) := by
  refine returnsInHanded_of_change (C := Tryz.checked) own started (by kernel_rfl) Tryz.func3
    (ChangeSpec.witness6 (enc := enc) (C := Tryz.checked) false ⟨#[], #[], []⟩ 8 (by kernel_rfl) (by kernel_rfl) (by kernel_rfl) (by kernel_rfl)) ?_
  intro W base args ds gs before hval0 hW hcnd _
  have hW' := hW
  obtain ⟨p, q, hA0, hV0, rfl, hfz, hnd⟩ := hW
  have hA : DataW.TrodAll enc Tryz.prog W 0 (fun _ => true) true Tryz.f3.params.toList args.toList ds p := hA0
  rw [Tryz.params3] at hA
  obtain ⟨e0, rfl, rfl⟩ := trodAll_nil hA
  obtain rfl : args = #[] := by rw [← Array.toArray_toList (xs := args), e0]
  obtain ⟨rfl, rfl⟩ := trodVars_none hV0
  refine (Go.Ideal.X.law_calls W).mono fun e W' ⟨he, hs⟩ => ⟨_, he, ?_⟩
  exact law_post hW' rfl rfl (t := 4) (by kernel_rfl) Tryz.underlying4 hs laidOut (fun t ht => by
    rw [Tryz.params3] at ht
    simp at ht)
theorem known_holds : Rows.WireKnownSaid :=
  OpenClaim.holds_of_wide 3 Tryz.f3 rfl rfl rfl rfl rfl rfl rfl ⟨rfl, rfl, rfl, rfl, rfl⟩ rfl rfl rfl rfl rfl (by kernel_rfl) Tryz.func3 (by kernel_rfl)
    (of_decide_eq_true (by kernel_rfl)) (by unfold Func.isWrapper; first | (rw [if_pos (by decide +kernel)]; kernel_rfl) | (rw [if_neg (by decide +kernel)]; exact ⟨rfl, rfl⟩))
    (fun os started H enc _ => law_lifted os started H enc)
end Go.Proofs.YtpkaonjppochoaaGreat
