/- The tables of this seat fit the program; no condition. -/
import Derived.Test.YtdflicpplbkplaaGreatDoorAmD
import Derived.Test.YtdflicpplbkplaaGreatDoorTabs
import Derived.KernelRfl
import Derived.Test.YtdflicpplbkplaaGreatDoorAmC
import Derived.Test.YtdflicpplbkplaaGreatDoorTie
import Derived.WalkKit
import Derived.ProofKit
import Derived.Handy
import Derived.Lay
import Derived.SevenTiedAt
namespace Go.Proofs
open Go Go.AM
set_option maxRecDepth 100000
theorem Tryz.fnOk : Tr.AllP (fun f F => Tryz.prog.funcs[f]? = some F ∧ ∀ args w, (callFunc f args).run Tryz.prog w = .ok (.enter f args) w) (fun j => j) Tryz.fnT := (.none (.none (.some ⟨Tryz.func3, Tryz.call3⟩ (.some ⟨Tryz.func7, Tryz.call7⟩ (.some ⟨Tryz.func15, Tryz.call15⟩ (.some ⟨Tryz.func31, Tryz.call31⟩ (.some ⟨Tryz.func63, Tryz.call63⟩ (.some ⟨Tryz.func127, Tryz.call127⟩ .lf .lf) (.some ⟨Tryz.func191, Tryz.call191⟩ .lf .lf)) (.some ⟨Tryz.func95, Tryz.call95⟩ (.some ⟨Tryz.func159, Tryz.call159⟩ .lf .lf) (.some ⟨Tryz.func223, Tryz.call223⟩ .lf .lf))) (.some ⟨Tryz.func47, Tryz.call47⟩ (.some ⟨Tryz.func79, Tryz.call79⟩ (.some ⟨Tryz.func143, Tryz.call143⟩ .lf .lf) (.some ⟨Tryz.func207, Tryz.call207⟩ .lf .lf)) (.some ⟨Tryz.func111, Tryz.call111⟩ (.some ⟨Tryz.func175, Tryz.call175⟩ .lf .lf) .lf))) (.some ⟨Tryz.func23, Tryz.call23⟩ (.some ⟨Tryz.func39, Tryz.call39⟩ (.some ⟨Tryz.func71, Tryz.call71⟩ (.some ⟨Tryz.func135, Tryz.call135⟩ .lf .lf) (.some ⟨Tryz.func199, Tryz.call199⟩ .lf .lf)) (.some ⟨Tryz.func103, Tryz.call103⟩ (.some ⟨Tryz.func167, Tryz.call167⟩ .lf .lf) (.some ⟨Tryz.func231, Tryz.call231⟩ .lf .lf))) (.some ⟨Tryz.func55, Tryz.call55⟩ (.some ⟨Tryz.func87, Tryz.call87⟩ (.some ⟨Tryz.func151, Tryz.call151⟩ .lf .lf) (.some ⟨Tryz.func215, Tryz.call215⟩ .lf .lf)) (.some ⟨Tryz.func119, Tryz.call119⟩ (.some ⟨Tryz.func183, Tryz.call183⟩ .lf .lf) .lf)))) (.some ⟨Tryz.func11, Tryz.call11⟩ (.some ⟨Tryz.func19, Tryz.call19⟩ (.some ⟨Tryz.func35, Tryz.call35⟩ (.some ⟨Tryz.func67, Tryz.call67⟩ (.some ⟨Tryz.func131, Tryz.call131⟩ .lf .lf) (.some ⟨Tryz.func195, Tryz.call195⟩ .lf .lf)) (.some ⟨Tryz.func99, Tryz.call99⟩ (.some ⟨Tryz.func163, Tryz.call163⟩ .lf .lf) (.some ⟨Tryz.func227, Tryz.call227⟩ .lf .lf))) (.some ⟨Tryz.func51, Tryz.call51⟩ (.some ⟨Tryz.func83, Tryz.call83⟩ (.some ⟨Tryz.func147, Tryz.call147⟩ .lf .lf) (.some ⟨Tryz.func211, Tryz.call211⟩ .lf .lf)) (.some ⟨Tryz.func115, Tryz.call115⟩ (.some ⟨Tryz.func179, Tryz.call179⟩ .lf .lf) .lf))) (.some ⟨Tryz.func27, Tryz.call27⟩ (.some ⟨Tryz.func43, Tryz.call43⟩ (.some ⟨Tryz.func75, Tryz.call75⟩ (.some ⟨Tryz.func139, Tryz.call139⟩ .lf .lf) (.some ⟨Tryz.func203, Tryz.call203⟩ .lf .lf)) (.some ⟨Tryz.func107, Tryz.call107⟩ (.some ⟨Tryz.func171, Tryz.call171⟩ .lf .lf) .lf)) (.some ⟨Tryz.func59, Tryz.call59⟩ (.some ⟨Tryz.func91, Tryz.call91⟩ (.some ⟨Tryz.func155, Tryz.call155⟩ .lf .lf) (.some ⟨Tryz.func219, Tryz.call219⟩ .lf .lf)) (.some ⟨Tryz.func123, Tryz.call123⟩ (.some ⟨Tryz.func187, Tryz.call187⟩ .lf .lf) .lf))))) (.some ⟨Tryz.func5, Tryz.call5⟩ (.some ⟨Tryz.func9, Tryz.call9⟩ (.some ⟨Tryz.func17, Tryz.call17⟩ (.some ⟨Tryz.func33, Tryz.call33⟩ (.some ⟨Tryz.func65, Tryz.call65⟩ (.some ⟨Tryz.func129, Tryz.call129⟩ .lf .lf) (.some ⟨Tryz.func193, Tryz.call193⟩ .lf .lf)) (.some ⟨Tryz.func97, Tryz.call97⟩ (.some ⟨Tryz.func161, Tryz.call161⟩ .lf .lf) (.some ⟨Tryz.func225, Tryz.call225⟩ .lf .lf))) (.some ⟨Tryz.func49, Tryz.call49⟩ (.some ⟨Tryz.func81, Tryz.call81⟩ (.some ⟨Tryz.func145, Tryz.call145⟩ .lf .lf) (.some ⟨Tryz.func209, Tryz.call209⟩ .lf .lf)) (.some ⟨Tryz.func113, Tryz.call113⟩ (.some ⟨Tryz.func177, Tryz.call177⟩ .lf .lf) .lf))) (.some ⟨Tryz.func25, Tryz.call25⟩ (.some ⟨Tryz.func41, Tryz.call41⟩ (.some ⟨Tryz.func73, Tryz.call73⟩ (.some ⟨Tryz.func137, Tryz.call137⟩ .lf .lf) (.some ⟨Tryz.func201, Tryz.call201⟩ .lf .lf)) (.some ⟨Tryz.func105, Tryz.call105⟩ (.some ⟨Tryz.func169, Tryz.call169⟩ .lf .lf) (.some ⟨Tryz.func233, Tryz.call233⟩ .lf .lf))) (.some ⟨Tryz.func57, Tryz.call57⟩ (.some ⟨Tryz.func89, Tryz.call89⟩ (.some ⟨Tryz.func153, Tryz.call153⟩ .lf .lf) (.some ⟨Tryz.func217, Tryz.call217⟩ .lf .lf)) (.some ⟨Tryz.func121, Tryz.call121⟩ (.some ⟨Tryz.func185, Tryz.call185⟩ .lf .lf) .lf)))) (.some ⟨Tryz.func13, Tryz.call13⟩ (.some ⟨Tryz.func21, Tryz.call21⟩ (.some ⟨Tryz.func37, Tryz.call37⟩ (.some ⟨Tryz.func69, Tryz.call69⟩ (.some ⟨Tryz.func133, Tryz.call133⟩ .lf .lf) (.some ⟨Tryz.func197, Tryz.call197⟩ .lf .lf)) (.some ⟨Tryz.func101, Tryz.call101⟩ (.some ⟨Tryz.func165, Tryz.call165⟩ .lf .lf) (.some ⟨Tryz.func229, Tryz.call229⟩ .lf .lf))) (.some ⟨Tryz.func53, Tryz.call53⟩ (.some ⟨Tryz.func85, Tryz.call85⟩ (.some ⟨Tryz.func149, Tryz.call149⟩ .lf .lf) (.some ⟨Tryz.func213, Tryz.call213⟩ .lf .lf)) (.some ⟨Tryz.func117, Tryz.call117⟩ (.some ⟨Tryz.func181, Tryz.call181⟩ .lf .lf) .lf))) (.some ⟨Tryz.func29, Tryz.call29⟩ (.some ⟨Tryz.func45, Tryz.call45⟩ (.some ⟨Tryz.func77, Tryz.call77⟩ (.some ⟨Tryz.func141, Tryz.call141⟩ .lf .lf) (.some ⟨Tryz.func205, Tryz.call205⟩ .lf .lf)) (.some ⟨Tryz.func109, Tryz.call109⟩ (.some ⟨Tryz.func173, Tryz.call173⟩ .lf .lf) .lf)) (.some ⟨Tryz.func61, Tryz.call61⟩ (.some ⟨Tryz.func93, Tryz.call93⟩ (.some ⟨Tryz.func157, Tryz.call157⟩ .lf .lf) (.some ⟨Tryz.func221, Tryz.call221⟩ .lf .lf)) (.some ⟨Tryz.func125, Tryz.call125⟩ (.some ⟨Tryz.func189, Tryz.call189⟩ .lf .lf) .lf)))))) (.some ⟨Tryz.func2, Tryz.call2⟩ (.some ⟨Tryz.func4, Tryz.call4⟩ (.some ⟨Tryz.func8, Tryz.call8⟩ (.some ⟨Tryz.func16, Tryz.call16⟩ (.some ⟨Tryz.func32, Tryz.call32⟩ (.some ⟨Tryz.func64, Tryz.call64⟩ (.some ⟨Tryz.func128, Tryz.call128⟩ .lf .lf) (.some ⟨Tryz.func192, Tryz.call192⟩ .lf .lf)) (.some ⟨Tryz.func96, Tryz.call96⟩ (.some ⟨Tryz.func160, Tryz.call160⟩ .lf .lf) (.some ⟨Tryz.func224, Tryz.call224⟩ .lf .lf))) (.some ⟨Tryz.func48, Tryz.call48⟩ (.some ⟨Tryz.func80, Tryz.call80⟩ (.some ⟨Tryz.func144, Tryz.call144⟩ .lf .lf) (.some ⟨Tryz.func208, Tryz.call208⟩ .lf .lf)) (.some ⟨Tryz.func112, Tryz.call112⟩ (.some ⟨Tryz.func176, Tryz.call176⟩ .lf .lf) .lf))) (.some ⟨Tryz.func24, Tryz.call24⟩ (.some ⟨Tryz.func40, Tryz.call40⟩ (.some ⟨Tryz.func72, Tryz.call72⟩ (.some ⟨Tryz.func136, Tryz.call136⟩ .lf .lf) (.some ⟨Tryz.func200, Tryz.call200⟩ .lf .lf)) (.some ⟨Tryz.func104, Tryz.call104⟩ (.some ⟨Tryz.func168, Tryz.call168⟩ .lf .lf) (.some ⟨Tryz.func232, Tryz.call232⟩ .lf .lf))) (.some ⟨Tryz.func56, Tryz.call56⟩ (.some ⟨Tryz.func88, Tryz.call88⟩ (.some ⟨Tryz.func152, Tryz.call152⟩ .lf .lf) (.some ⟨Tryz.func216, Tryz.call216⟩ .lf .lf)) (.some ⟨Tryz.func120, Tryz.call120⟩ (.some ⟨Tryz.func184, Tryz.call184⟩ .lf .lf) .lf)))) (.some ⟨Tryz.func12, Tryz.call12⟩ (.some ⟨Tryz.func20, Tryz.call20⟩ (.some ⟨Tryz.func36, Tryz.call36⟩ (.some ⟨Tryz.func68, Tryz.call68⟩ (.some ⟨Tryz.func132, Tryz.call132⟩ .lf .lf) (.some ⟨Tryz.func196, Tryz.call196⟩ .lf .lf)) (.some ⟨Tryz.func100, Tryz.call100⟩ (.some ⟨Tryz.func164, Tryz.call164⟩ .lf .lf) (.some ⟨Tryz.func228, Tryz.call228⟩ .lf .lf))) (.some ⟨Tryz.func52, Tryz.call52⟩ (.some ⟨Tryz.func84, Tryz.call84⟩ (.some ⟨Tryz.func148, Tryz.call148⟩ .lf .lf) (.some ⟨Tryz.func212, Tryz.call212⟩ .lf .lf)) (.some ⟨Tryz.func116, Tryz.call116⟩ (.some ⟨Tryz.func180, Tryz.call180⟩ .lf .lf) .lf))) (.some ⟨Tryz.func28, Tryz.call28⟩ (.some ⟨Tryz.func44, Tryz.call44⟩ (.some ⟨Tryz.func76, Tryz.call76⟩ (.some ⟨Tryz.func140, Tryz.call140⟩ .lf .lf) (.some ⟨Tryz.func204, Tryz.call204⟩ .lf .lf)) (.some ⟨Tryz.func108, Tryz.call108⟩ (.some ⟨Tryz.func172, Tryz.call172⟩ .lf .lf) .lf)) (.some ⟨Tryz.func60, Tryz.call60⟩ (.some ⟨Tryz.func92, Tryz.call92⟩ (.some ⟨Tryz.func156, Tryz.call156⟩ .lf .lf) (.some ⟨Tryz.func220, Tryz.call220⟩ .lf .lf)) (.some ⟨Tryz.func124, Tryz.call124⟩ (.some ⟨Tryz.func188, Tryz.call188⟩ .lf .lf) .lf))))) (.some ⟨Tryz.func6, Tryz.call6⟩ (.some ⟨Tryz.func10, Tryz.call10⟩ (.some ⟨Tryz.func18, Tryz.call18⟩ (.some ⟨Tryz.func34, Tryz.call34⟩ (.some ⟨Tryz.func66, Tryz.call66⟩ (.some ⟨Tryz.func130, Tryz.call130⟩ (.some ⟨Tryz.func258, Tryz.call258⟩ .lf .lf) .lf) (.some ⟨Tryz.func194, Tryz.call194⟩ .lf .lf)) (.some ⟨Tryz.func98, Tryz.call98⟩ (.some ⟨Tryz.func162, Tryz.call162⟩ .lf .lf) (.some ⟨Tryz.func226, Tryz.call226⟩ .lf .lf))) (.some ⟨Tryz.func50, Tryz.call50⟩ (.some ⟨Tryz.func82, Tryz.call82⟩ (.some ⟨Tryz.func146, Tryz.call146⟩ .lf .lf) (.some ⟨Tryz.func210, Tryz.call210⟩ .lf .lf)) (.some ⟨Tryz.func114, Tryz.call114⟩ (.some ⟨Tryz.func178, Tryz.call178⟩ .lf .lf) .lf))) (.some ⟨Tryz.func26, Tryz.call26⟩ (.some ⟨Tryz.func42, Tryz.call42⟩ (.some ⟨Tryz.func74, Tryz.call74⟩ (.some ⟨Tryz.func138, Tryz.call138⟩ .lf .lf) (.some ⟨Tryz.func202, Tryz.call202⟩ .lf .lf)) (.some ⟨Tryz.func106, Tryz.call106⟩ (.some ⟨Tryz.func170, Tryz.call170⟩ .lf .lf) .lf)) (.some ⟨Tryz.func58, Tryz.call58⟩ (.some ⟨Tryz.func90, Tryz.call90⟩ (.some ⟨Tryz.func154, Tryz.call154⟩ .lf .lf) (.some ⟨Tryz.func218, Tryz.call218⟩ .lf .lf)) (.some ⟨Tryz.func122, Tryz.call122⟩ (.some ⟨Tryz.func186, Tryz.call186⟩ .lf .lf) .lf)))) (.some ⟨Tryz.func14, Tryz.call14⟩ (.some ⟨Tryz.func22, Tryz.call22⟩ (.some ⟨Tryz.func38, Tryz.call38⟩ (.some ⟨Tryz.func70, Tryz.call70⟩ (.some ⟨Tryz.func134, Tryz.call134⟩ .lf .lf) (.some ⟨Tryz.func198, Tryz.call198⟩ .lf .lf)) (.some ⟨Tryz.func102, Tryz.call102⟩ (.some ⟨Tryz.func166, Tryz.call166⟩ .lf .lf) (.some ⟨Tryz.func230, Tryz.call230⟩ .lf .lf))) (.some ⟨Tryz.func54, Tryz.call54⟩ (.some ⟨Tryz.func86, Tryz.call86⟩ (.some ⟨Tryz.func150, Tryz.call150⟩ .lf .lf) (.some ⟨Tryz.func214, Tryz.call214⟩ .lf .lf)) (.some ⟨Tryz.func118, Tryz.call118⟩ (.some ⟨Tryz.func182, Tryz.call182⟩ .lf .lf) .lf))) (.some ⟨Tryz.func30, Tryz.call30⟩ (.some ⟨Tryz.func46, Tryz.call46⟩ (.some ⟨Tryz.func78, Tryz.call78⟩ (.some ⟨Tryz.func142, Tryz.call142⟩ .lf .lf) (.some ⟨Tryz.func206, Tryz.call206⟩ .lf .lf)) (.some ⟨Tryz.func110, Tryz.call110⟩ (.some ⟨Tryz.func174, Tryz.call174⟩ .lf .lf) .lf)) (.some ⟨Tryz.func62, Tryz.call62⟩ (.some ⟨Tryz.func94, Tryz.call94⟩ (.some ⟨Tryz.func158, Tryz.call158⟩ .lf .lf) (.some ⟨Tryz.func222, Tryz.call222⟩ .lf .lf)) (.some ⟨Tryz.func126, Tryz.call126⟩ (.some ⟨Tryz.func190, Tryz.call190⟩ .lf .lf) .lf)))))))
end Go.Proofs

namespace Go.Proofs
open Go Go.AM
set_option maxRecDepth 100000
theorem Tryz.tiOk : Tr.allI (tiB Tryz.prog (fun t => Tryz.tiT.get t)) (fun j => j) Tryz.tiT = true := by kernel_rfl
theorem Tryz.mixedOk : Tryz.prog.follows .mixedOrders = true := by kernel_rfl
theorem Tryz.glOk : Tr.allI (fun _ (cs : List AV) => cs.all plainA) (fun j => j) Tryz.glT = true := by kernel_rfl
end Go.Proofs

/-
  THE SEAT's TABLES, proved to fit the program; where a run of a law starts; from a run of the abstract machine to a call of the real one.
-/
namespace Go.Proofs.YtdflicpplbkplaaGreatDoor
open Go Go.AM Go.ChangeShapes Go.WideShapes Go.ChangeAt Go.RowKit

theorem ctx : CtxR Tryz.C Tryz.prog where
  ti t i h := (tiB_sound (Tr.allI_get Tryz.tiOk h)).1
  eqp t i h := (tiB_sound (Tr.allI_get Tryz.tiOk h)).2.1
  flds t i fs h := (tiB_sound (Tr.allI_get Tryz.tiOk h)).2.2 fs
  fn f F h := Tryz.fnOk.get h
  mixed := Tryz.mixedOk
  globF g cs h x hx := (plainA_free (List.all_eq_true.1 (Tr.allI_get Tryz.glOk h) x hx)).1

/-- What the cards list. -/
def laidL : List (String × DataW Unit) := [("math/bits.deBruijn32tab", Rows.laid_math_bits_deBruijn32tab), ("math/bits.deBruijn64tab", Rows.laid_math_bits_deBruijn64tab), ("internal/strconv.uint64pow10", Rows.laid_internal_strconv_uint64pow10), ("haruspex/lex.keys", Rows.laid_haruspex_lex_keys), ("haruspex/lex.marks", Rows.laid_haruspex_lex_marks)]

/-- Each variable of the table is listed, with what the table says. -/
theorem glLaid : Tr.allI (fun g xs => laidL.any fun x => globB Tryz.prog x.1 x.2 g xs) (fun j => j) Tryz.glT = true := by kernel_rfl

theorem laidVars_each {P : Program} {w : World} : ∀ {l : List (String × DataW Unit)} {ps : List MemPlace}, DataW.LaidVars P w l ps → ∀ x, x ∈ l →
    ∃ g t cs fuel p, P.globalNamed x.1 = some g ∧ (P.globals[g]?).map (·.type) = some t ∧ w.var? P x.1 = some cs ∧ DataW.trod (fun _ => ()) P w 0 (fun _ => true) false fuel t cs.toList = some (x.2, p)
  | [], _, _, x, hx => by cases hx
  | (n, d) :: l, ps, h, x, hx => by
    obtain ⟨g, t, cs, fuel, p, q, h1, h2, h3, h4, h5, _⟩ := h
    rcases List.mem_cons.1 hx with rfl | hx
    · exact ⟨g, t, cs, fuel, p, h1, h2, h3, h4⟩
    · exact laidVars_each h5 x hx

theorem start {W : World} (h : laidMetH Tryz.prog laidL W) : GR Tryz.C (startG Tryz.C W) := by
  rw [MakeChecks.laidMetH_plain _ _ _ (by kernel_rfl)] at h
  obtain ⟨ps, hV, _⟩ := h
  refine start_GR fun g cs hg => ?_
  obtain ⟨x, hx, hb⟩ := List.any_eq_true.1 (Tr.allI_get glLaid hg)
  exact glob_sound hb (laidVars_each hV x hx)

/-- A run of the abstract machine from an empty heap: a call of the real one. -/
theorem calls_of_run {W : World} (hl : laidMetH Tryz.prog laidL W) {f : Nat} {args : List AV} {us : List Value} {a : AV} {H : Heap} (h : callF Tryz.C (exW Tryz.C) f args Heap.empty = some (.ret a, H)) (ha : ∀ γ, VRs γ args us) :
    Calls Tryz.prog f us.toArray W fun e W' => ∃ v, e = .returned v ∧ (∃ γ, VR γ a v) ∧ W.keptBut W' (fun _ => False) := by
  obtain ⟨n, hn⟩ := call_of_W h
  refine (callsIn_wide.1 (sound_call ctx hn (start hl) (start_HR _ _) (ha _))).mono fun e W' hp => ?_
  cases e with
  | returned v =>
    obtain ⟨γ', b, e1, hv, _, hx⟩ := hp
    cases e1
    exact ⟨v, rfl, ⟨γ', hv⟩, kept_of_ext hx _⟩
  | panicked chain =>
    obtain ⟨γ', b, u, e1, _⟩ := hp
    cases e1
  | outgrown => exact hp.elim

theorem own : ownKnob Tryz.prog.godebug = none := by kernel_rfl

end Go.Proofs.YtdflicpplbkplaaGreatDoor
