/- What the program and the document compute, as plain data, and laws of it. No condition. -/
import Derived.BigQuiet
import Derived.BigRegion
import Derived.Carry
import Derived.ChangeAlike
import Derived.ChangeMaps5
import Derived.ChangeSame
import Derived.ChangeVars
import Derived.Deep.AppendLies
import Derived.Deep.CutBlock
import Derived.Deep.CutRange
import Derived.Deep.DeepCutAuto
import Derived.Deep.QuietTactic
import Derived.Deep.RegionHeld3
import Derived.Deep.RegionLaw
import Derived.Deep.Slices
import Derived.IntWalk
import Derived.JoinedOf
import Derived.KernelRfl
import Derived.LaidLaws
import Derived.Laws.CopyOwn
import Derived.Laws.MakeOwn
import Derived.Laws.OwnMore
import Derived.Laws.Rows
import Derived.Lib.Hide
import Derived.Maps.AppendAt
import Derived.Maps.OwnOps
import Derived.Maps.Views
import Derived.OpenShut
import Derived.OwnWalk
import Derived.ProofKit
import Derived.RegionTactic
import Derived.StillTailTactics
import Derived.WalkKit
import Derived.WalkLawsBesides
import Derived.WalkSpells
import Derived.WideMake
import Derived.Test.YtjhfcfpkgfpoiaaGreatDoorDe
import Derived.Test.YtjhfcfpkgfpoiaaGreatDoorProg
import Derived.Test.YtjhfcfpkgfpoiaaGreatDoorWf
import Derived.Test.YtjhfcfpkgfpoiaaGreatDoorWg
import Derived.Test.YtjhfcfpkgfpoiaaGreatDoorWh
import Derived.Test.YtjhfcfpkgfpoiaaGreatDoorWi
import Derived.Test.YtjhfcfpkgfpoiaaGreatDoorWj
import Derived.Test.YtjhfcfpkgfpoiaaGreatDoorWk
import Derived.Test.YtjhfcfpkgfpoiaaGreatDoorWl
import Derived.Test.YtjhfcfpkgfpoiaaGreatDoorWm
import Derived.Test.YtjhfcfpkgfpoiaaGreatDoorWn
import Derived.Test.YtjhfcfpkgfpoiaaGreatDoorWo
import Derived.Test.YtjhfcfpkgfpoiaaGreatDoorWp
namespace Go.Proofs.YtjhfcfpkgfpoiaaGreatDoor
open Go Go.ChangeShapes Go.WideShapes Go.ChangeAt Go.RowKit
set_option maxRecDepth 100000
theorem Xqh{s:ChangeSpec}(hs:s.vars=[])(hfn:∀(H:Type) (d:DataW H),s.fn H [d]= {results:=[.lit (.bool true)],args:=[d]})
  (laidOut:laidOutB Tryz.prog=true) {H:Type} {enc:TypeId×Value→H} (W:World) (base:Nat) (args:Array Value) (ds gs:List (DataW H)) (before:List MemPlace)
  (hval:∀(j:Nat) t v,Tryz.f3.params[j]? =some t→args[j]? =some v→Value.okWide Tryz.prog W .any base t v)
  (hW:DataW.Whole enc Tryz.prog Tryz.f3.params.toList s.vars false W args.toList ds gs before)
  (L:∀w',Below W.heap.size W w'→Calls Tryz.prog 4 #[] w' fun e w''=>e= .returned (.bool true)∧Below w'.heap.size w' w''):
  Calls Tryz.prog 3 args W fun e W'=>∃v,e= .returned v∧s.post enc Tryz.prog Tryz.f3 false true false false W args v W':=by
 obtain⟨n,vars,fn⟩:=s;simp only at hs hfn hW;subst hs;have hW':=hW;obtain⟨p,q,hA0,hV,rfl,_,_⟩:=hW;have hA:DataW.TrodAll enc Tryz.prog W 0 (fun _=>true) true Tryz.f3.params.toList args.toList ds p:=hA0;rw[Tryz.params3]at hA hval;obtain⟨v0,d0,rfl,rfl,h0⟩:=trodAll_one hA;obtain⟨rfl,rfl⟩:=trodVars_none hV;have hv:=hval 0 26 v0 rfl rfl;unfold Value.okWide at hv;rw[Tryz.underlying26]at hv;obtain⟨us,rfl, -, -⟩:=hv;obtain⟨fuel,hf⟩:=h0;obtain⟨c,hw,hu⟩:=Xvj (w:=W) (us:=us) hf;refine(Xua c hw W _ hu L).mono fun e W' ⟨he,hb⟩=>?_;subst he;have hlt:∀x∈p,x.block<W.heap.size:=fun x hx=>by
  have:=hW'.lt x (List.mem_append_left _ hx);simpa using this
 refine⟨_,rfl,_,_,_,[],p,[],hW',?_,?_,?_,hb.frame _,fun h=>by cases h⟩
 ·show DataW.TrodAll _ _ _ _ _ _ _ _ (fn H [d0]).results []
  rw[hfn];exact trodAll_mk1 (shut_bool Tryz.underlying4 _)
 ·show DataW.TrodAll _ _ _ _ _ _ _ _ (fn H [d0]).args p
  rw[hfn];exact trodAll_mk1 (Below.trod laidOut (by kernel_rfl) (of_decide_eq_true (by kernel_rfl)) ⟨fuel,hf⟩ hb hlt)
 ·show DataW.TrodVars _ _ _ _ [] (fn H [d0]).vars []
  rw[hfn];rfl
end Go.Proofs.YtjhfcfpkgfpoiaaGreatDoor
