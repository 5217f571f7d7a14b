/- Part of the proof: a machine over plain data, its proof, the functions of the program run on symbols, what they answer. Condition: none. -/
import Derived.Test.YtcdjbelccndadaaGreatDoorZz05
import Derived.Test.YtcdjbelccndadaaGreatDoorZz12
set_option linter.unusedVariables false
set_option linter.unusedSimpArgs false
namespace Go.Proofs.YtcdjbelccndadaaGreatDoor
section
set_option maxRecDepth 100000
theorem okCn{f:Nat}{l:List Nat}(h:OkQ f)(hl:∀g∈l,OkQ g):∀g∈f::l,OkQ g:=List.forall_mem_cons.2 ⟨h,hl⟩
theorem okFs0:∀f∈fs,OkQ f:=
 okCn (okOf s3 rfl) <|okCn (okOf s4 rfl) <|okCn (okOf s5 rfl) <|okCn (okOf s6 rfl) <|okCn (okOf s9 rfl) <|okCn (okOf s10 rfl) <|okCn (okOf s39 rfl) <|okCn (okOf s45 rfl) <|okCn (okOf s46 rfl) <|okCn (okOf s47 rfl) <|okCn (okOf s48 rfl) <|okCn (okOf s49 rfl) <|okCn (okOf s50 rfl) <|okCn (okOf s51 rfl) <|okCn (okOf s52 rfl) <|okCn (okOf s53 rfl) <|okCn (okOf s54 rfl) <|okCn (okOf s55 rfl) <|okCn (okOf s56 rfl) <|okCn (okOf s59 rfl) <|okCn (okOf s60 rfl) <|okCn (okOf s61 rfl) <|okCn (okOf s62 rfl) <|okCn (okOf s63 rfl) <|okCn (okOf s64 rfl) <|okCn (okOf s65 rfl) <|okCn (okOf s66 rfl) <|okCn (okOf s67 rfl) <|okCn (okOf s68 rfl) <|okCn (okOf s69 rfl) <|okCn (okOf s70 rfl) <|okCn (okOf s71 rfl) <|okCn (okOf s74 rfl) <|okCn (okOf s75 rfl) <|okCn (okOf s76 rfl) <|okCn (okOf s77 rfl) <|okCn (okOf s78 rfl) <|okCn (okOf s79 rfl) <|okCn (okOf s80 rfl) <|okCn (okOf s81 rfl) <|okCn (okOf s82 rfl) <|okCn (okOf s83 rfl) <|okCn (okOf s84 rfl) <|okCn (okOf s85 rfl) <|okCn (okOf s86 rfl) <|okCn (okOf s92 rfl) <|okCn (okOf s93 rfl) <|okCn (okOf s94 rfl) <|okCn (okOf s95 rfl) <|okCn (okOf s96 rfl) <|okCn (okOf s97 rfl) <|okCn (okOf s98 rfl) <|okCn (okOf s99 rfl) <|okCn (okOf s100 rfl) <|okCn (okOf s101 rfl) <|okCn (okOf s102 rfl) <|okCn (okOf s108 rfl) <|okCn (okOf s109 rfl) <|okCn (okOf s110 rfl) <|okCn (okOf s111 rfl) <|okCn (okOf s112 rfl) <|okCn (okOf s113 rfl) <|okCn (okOf s114 rfl) <|okCn (okOf s115 rfl) <|okCn (okOf s116 rfl) <|okCn (okOf s117 rfl) <|okCn (okOf s118 rfl) <|okCn (okOf s119 rfl) <|okCn (okOf s120 rfl) <|okCn (okOf s201 rfl) <|okCn (okOf s202 rfl) <|okCn (okOf s203 rfl) <|okCn (okOf s204 rfl) <|okCn (okOf s205 rfl) <|okCn (okOf s206 rfl) <|okCn (okOf s207 rfl) <|okCn (okOf s208 rfl) <|okCn (okOf s209 rfl) <|okCn (okOf s210 rfl) <|okCn (okOf s211 rfl) <|okCn (okOf s212 rfl) <|okCn (okOf s213 rfl) <|okCn (okOf s214 rfl) <|okCn (okOf s215 rfl) <|okCn (okOf s216 rfl) <|okCn (okOf s217 rfl) <|okCn (okOf s218 rfl) <|okCn (okOf s219 rfl) <|okCn (okOf s220 rfl) <|okCn (okOf s221 rfl) <|okCn (okOf s222 rfl) <|okCn (okOf s223 rfl) <|okCn (okOf s224 rfl) <|okCn (okOf s225 rfl) <|okCn (okOf s226 rfl) <|okCn (okOf s227 rfl) <|okCn (okOf s228 rfl) <|okCn (okOf s229 rfl) <|okCn (okOf s230 rfl) <|okCn (okOf s231 rfl) <|okCn (okOf s232 rfl) <|okCn (okOf s233 rfl) <|okCn (okOf s234 rfl) <|okCn (okOf s235 rfl) <|okCn (okOf s236 rfl) <|okCn (okOf s237 rfl) <|okCn (okOf s238 rfl) <|okCn (okOf s239 rfl) <|okCn (okOf s240 rfl) <|okCn (okOf s241 rfl) <|okCn (okOf s242 rfl) <|okCn (okOf s243 rfl) <|okCn (okOf s244 rfl) <|okCn (okOf s245 rfl) <|okCn (okOf s246 rfl) <|okCn (okOf s247 rfl) <|okCn (okOf s248 rfl) <|okCn (okOf s249 rfl) <|okCn (okOf s250 rfl) <|okCn (okOf s251 rfl) <|okCn (okOf s252 rfl) <|okCn (okOf s253 rfl) <|okCn (okOf s254 rfl) <|okCn (okOf s255 rfl) <|okCn (okOf s256 rfl) <|okCn (okOf s257 rfl) <|okCn (okOf s258 rfl) <|okCn (okOf s259 rfl) <|okCn (okOf s260 rfl) <|okCn (okOf s261 rfl) <|okCn (okOf s262 rfl) <|okCn (okOf s263 rfl) <|okCn (okOf s264 rfl) <|okCn (okOf s265 rfl) <|okCn (okOf s266 rfl) <|okCn (okOf s267 rfl) <|okCn (okOf s268 rfl) <|okCn (okOf s269 rfl) <|okCn (okOf s270 rfl) <|okCn (okOf s271 rfl) <|okCn (okOf s272 rfl) <|okCn (okOf s273 rfl) <|okCn (okOf s274 rfl) <|okCn (okOf s275 rfl) <|okCn (okOf s277 rfl) <|okCn (okOf s278 rfl) <|okCn (okOf s280 rfl) <|okCn (okOf s281 rfl) <|okCn (okOf s282 rfl) <|okCn (okOf s283 rfl) <|okCn (okOf s284 rfl) <|okCn (okOf s285 rfl) <|okCn (okOf s286 rfl) <|okCn (okOf s287 rfl) <|okCn (okOf s288 rfl) <|okCn (okOf s303 rfl) <|okCn (okOf s308 rfl) <|okCn (okOf s309 rfl) <|okCn (okOf s310 rfl) <|okCn (okOf s311 rfl) <|okCn (okOf s312 rfl) <|okCn (okOf s313 rfl) <|okCn (okOf s314 rfl) <|okCn (okOf s315 rfl) <|okCn (okOf s316 rfl) <|okCn (okOf s317 rfl) <|okCn (okOf s320 rfl) <|okCn (okOf s321 rfl) <|okCn (okOf s322 rfl) <|okCn (okOf s323 rfl) <|okCn (okOf s324 rfl) <|okCn (okOf s325 rfl) <|okCn (okOf s326 rfl) <|okCn (okOf s327 rfl) <|okCn (okOf s328 rfl) <|okCn (okOf s329 rfl) <|okCn (okOf s330 rfl) <|okCn (okOf s331 rfl) <|okCn (okOf s332 rfl) <|okCn (okOf s334 rfl) <|okCn (okOf s335 rfl) <|okCn (okOf s336 rfl) <|okCn (okOf s337 rfl) <|okCn (okOf s339 rfl) <|okCn (okOf s340 rfl) <|okCn (okOf s341 rfl) <|okCn (okOf s342 rfl) <|okCn (okOf s343 rfl) <|fun _ h=>by cases h
theorem okTb:∀p∈tabP,OkK Tryz.prog num p.1 p.2:=by
 unfold tabP;refine List.forall_mem_cons.2 ⟨.of ok276 rfl,?_⟩;refine List.forall_mem_cons.2 ⟨.of ok279 rfl,?_⟩;refine List.forall_mem_cons.2 ⟨.ext x9001,?_⟩;refine List.forall_mem_cons.2 ⟨.ext x9002,?_⟩;refine List.forall_mem_cons.2 ⟨.ext x9003,?_⟩;exact fun _ h=>by cases h
theorem inL_mem{d:Nat}:∀{l:List Nat},inL_ d l=true→d∈l
 |[],h=>by cases h
 |e::l,h=>by
  simp only[inL_]at h
  split at h
  ·rename_i he;rw[Nat.eq_of_beq_eq_true he];exact List.mem_cons_self
  ·exact List.mem_cons_of_mem _ (inL_mem h)
theorem okAll(f:Nat)(kf:KF)(h:T f=some kf):OkK Tryz.prog num f kf:=by
 have h0:=h;unfold T at h
 split at h
 ·rename_i k hk;cases h;exact okTb (f,_) (look_mem tabP hk)
 ·split at h
  ·rename_i hi;exact okFs0 f (inL_mem hi) kf h0
  ·cases h
theorem okJn:num 9004≠1000000→JoinOk Tryz.prog (num 9004):=fun _=>x9004
end
end Go.Proofs.YtcdjbelccndadaaGreatDoor
