/-
 Where no slice is handed in, nothing is asked. Conditions: none.
-/
import Derived.Test.YtbgbcaamipknmaaGreatApaD
set_option linter.unusedVariables false
set_option linter.unusedSimpArgs false
namespace Go.Sx.Apart
open Go Go.Proofs Go.RowKit Go.Lib Go.Sx Go.Sx.Lent
def makeOk(P:Program)(t:TypeId):Bool:=match P.underlying t with
 |some (.slice e)=>match P.info? e with
  |some i=>i.zero.isSome
  |none=>false
 |_=>false
theorem wpList_make0{P:Program}(w:World){ops:Array Oper}{rest:List Oper}{o:Oper}{a:Act}{Q:Exit->Act->World->Prop}
  (hg:o.guard=none) (l c:Operand) (t:TypeId) (hop:o.op=Op.makeSlice t l c) (hok:makeOk P t=true) (kl kc:IntKind) (hl:a.eval l= .int kl 0) (hc:a.eval c= .int kc 0)
  (hK:∀w',Below w.heap.size w w'->wpList P ops Q rest (a.put o.dst (.slice (some ⟨w.heap.size,0,none⟩) 0 0)) w'):wpList P ops Q (o::rest) a w:=by
 unfold makeOk at hok
 split at hok
 ·rename_i e h1
  split at hok
  ·rename_i i h2
   obtain⟨z,h3⟩:=Option.isSome_iff_exists.1 hok
   exact wpList_make_full w hg l c t hop w.heap.size e i z i.size h1 h2 h3 rfl kl kc 0 0 0 hl hc rfl rfl (by omega) (by unfold maxLen;omega) (Nat.le_refl _) fun w' _ hgr=>hK w' ⟨hgr.os,hgr.tape,hgr.output,hgr.size,fun x hx=>hgr.block x hx (by simp)⟩
  ·cases hok
 ·cases hok
set_option maxHeartbeats 100000000 in
set_option maxRecDepth 100000 in
theorem flat0(f:FuncId)(hf:f∈ [71,72,73,74,75,76,77,78,79,82,83,84,85,86,87,88,89,90,91,92])(w:World):Calls Tryz.prog f #[.slice none 0 0] w fun e w'=>e= .returned (.bool true)/\Below w.heap.size w w':=by
 simp only[List.mem_cons,List.not_mem_nil,or_false]at hf
 rcases hf with rfl|rfl|rfl|rfl|rfl|rfl|rfl|rfl|rfl|rfl|rfl|rfl|rfl|rfl|rfl|rfl|rfl|rfl|rfl|rfl
 go_enter Tryz.func71,Tryz.ntmps71
 rotate_left
 go_enter Tryz.func72,Tryz.ntmps72
 rotate_left
 go_enter Tryz.func73,Tryz.ntmps73
 rotate_left
 go_enter Tryz.func74,Tryz.ntmps74
 rotate_left
 go_enter Tryz.func75,Tryz.ntmps75
 rotate_left
 go_enter Tryz.func76,Tryz.ntmps76
 rotate_left
 go_enter Tryz.func77,Tryz.ntmps77
 rotate_left
 go_enter Tryz.func78,Tryz.ntmps78
 rotate_left
 go_enter Tryz.func79,Tryz.ntmps79
 rotate_left
 go_enter Tryz.func82,Tryz.ntmps82
 rotate_left
 go_enter Tryz.func83,Tryz.ntmps83
 rotate_left
 go_enter Tryz.func84,Tryz.ntmps84
 rotate_left
 go_enter Tryz.func85,Tryz.ntmps85
 rotate_left
 go_enter Tryz.func86,Tryz.ntmps86
 rotate_left
 go_enter Tryz.func87,Tryz.ntmps87
 rotate_left
 go_enter Tryz.func88,Tryz.ntmps88
 rotate_left
 go_enter Tryz.func89,Tryz.ntmps89
 rotate_left
 go_enter Tryz.func90,Tryz.ntmps90
 rotate_left
 go_enter Tryz.func91,Tryz.ntmps91
 rotate_left
 go_enter Tryz.func92,Tryz.ntmps92
 rotate_left
 all_goals
  go_wp2
  go_loopw [3] (fun i wr=>i= .int .i64 0/\wr=w) (fun _ _=>0)
  case atStart=>exact⟨rfl,rfl⟩
  case round=>
   obtain⟨rfl,rfl⟩:=hrel
   go_wp2_with (at_make;refine wpList_make0 _ rfl _ _ _ rfl (by kernel_rfl) _ _ rfl rfl ?_;intro w2 hb2)
   go_loopw [6] (fun i wx=>i= .int .i64 0/\wx=w2) (fun _ _=>0)
   case atStart=>exact⟨rfl,rfl⟩
   case round=>
    obtain⟨rfl,hwr⟩:=hrel;subst wr
    go_wp2
    go_loopw [9] (fun i wx=>i= .int .i64 0/\wx=w2) (fun _ _=>0)
    case atStart=>exact⟨rfl,rfl⟩
    case round=>
     obtain⟨rfl,hwr⟩:=hrel;subst wr
     go_wp2
     go_loopw [11] (fun i wx=>i= .int .i64 0/\wx=w2) (fun _ _=>0)
     case atStart=>exact⟨rfl,rfl⟩
     case round=>
      obtain⟨rfl,hwr⟩:=hrel;subst wr
      go_wp2
      go_loopw [14] (fun i wx=>i= .int .i64 0/\wx=w2) (fun _ _=>0)
      case atStart=>exact⟨rfl,rfl⟩
      case round=>
       obtain⟨rfl,hwr⟩:=hrel;subst wr
       go_wp2
       go_ret
       exact⟨rfl,hb2⟩
end Go.Sx.Apart
