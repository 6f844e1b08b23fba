
import Derived.Test.YtfkmkgpoddbbfaaGreatDoorKMem5
namespace Go.KK
open Go
inductive GErr where
 |nil
 |code (n:Int)
 |fault (op:ByteArray) (at_:Int) (e:GErr)
 |other (a:Addr)
instance:Inhabited GErr:=⟨.nil⟩
def GErr.val (tc tf tp:TypeId):GErr→Value
 | .nil=> .nilIface
 | .code n=> .iface tc (.int .i64 n)
 | .fault op at_ e=> .iface tf (.agg #[.string op, .int .i64 at_,GErr.val tc tf tp e])
 | .other a=> .iface tp (.pointer (some a))
def GErr.isNil:GErr→Bool
 | .nil=>true
 |_=>false
theorem GErr.val_one (tc tf tp:TypeId) (e:GErr):(e.val tc tf tp).oneCell'=true:=by cases e<;>rfl
theorem GErr.val_cells (tc tf tp:TypeId) (e:GErr):(e.val tc tf tp).cells=#[e.val tc tf tp]:=by cases e<;>rfl
def Q4B (tc tf tp:TypeId):Kd GErr:=⟨1,fun _ cs x=>cs=[x.val tc tf tp],fun _ _ _ h=>h,fun h=>by rw [h];rfl,fun h v hv=>by rw [h] at hv;simp at hv;subst hv;exact GErr.val_one _ _ _ _⟩
section
variable {P : Program} {ρ : Nat → Value} {M : IM} {H : HL} {d : Option Nat} {ty : TypeId} {pos : String} {af : Array Edge} {g : Option (Nat × Bool)}
theorem QkU {t:TypeId}{ms:Array (String×TypeId)}(ht:P.underlying t=some (.interface ms)) (e:GErr) (tc tf tp:TypeId) (w:World):
  (Op.equal t (e.val tc tf tp) .nilIface).run P w= .ok e.isNil w:=by
 unfold Op.equal
 obtain ⟨n,hn⟩:∃ n,Op.maxDepth=n+1:=⟨9999,rfl⟩
 rw [hn]
 cases e<;>simp only [Op.equalIn,Sem.run_bind,run_underlying ht,Result.andThen_ok,GErr.val,GErr.isNil]<;>rfl
theorem QpD (op:BinOp) (t:TypeId) (x:Operand) (a:Value):eqGuard op t x (.const .nilIface) a .nilIface=pure ():=by
 unfold eqGuard
 cases op<;>cases a<;>simp
theorem PO.errNil {t u:TypeId}{ms:Array (String×TypeId)}{x:Operand}{tc tf tp:TypeId}{e:GErr}(ht:P.underlying t=some (.interface ms)) (hx:ev ρ x=e.val tc tf tp):
  PO P ⟨d, .binOp .eql t x (.const .nilIface) u,ty,pos,af,g⟩ ρ M H (.bool e.isNil):=fun w _=>by
 have hb:binOp .eql t (e.val tc tf tp) .nilIface=(do pure (.bool (←Op.equal t (e.val tc tf tp) .nilIface))):=by cases e<;>rfl
 simp only [execOp,hx,show ev ρ (.const .nilIface)= .nilIface from rfl,QpD,pure_bind,hb,Sem.run_bind,QkU ht,Result.andThen_ok,Sem.run_pure]
theorem PO.errNotNil {t u:TypeId}{ms:Array (String×TypeId)}{x:Operand}{tc tf tp:TypeId}{e:GErr}(ht:P.underlying t=some (.interface ms)) (hx:ev ρ x=e.val tc tf tp):
  PO P ⟨d, .binOp .neq t x (.const .nilIface) u,ty,pos,af,g⟩ ρ M H (.bool (!e.isNil)):=fun w _=>by
 have hb:binOp .neq t (e.val tc tf tp) .nilIface=(do pure (.bool (!(←Op.equal t (e.val tc tf tp) .nilIface)))):=by cases e<;>rfl
 simp only [execOp,hx,show ev ρ (.const .nilIface)= .nilIface from rfl,QpD,pure_bind,hb,Sem.run_bind,QkU ht,Result.andThen_ok,Sem.run_pure]
end
end Go.KK
