import Derived.Test.YtanighkpfmgnbaaGreatDoorProg
import Derived.Test.YtanighkpfmgnbaaGreatDoorMA2
import Derived.Test.YtanighkpfmgnbaaGreatDoorMB1
import Derived.Test.YtanighkpfmgnbaaGreatDoorMA3
import Derived.Test.YtanighkpfmgnbaaGreatDoorMB2
import Derived.Test.YtanighkpfmgnbaaGreatDoorMB3
set_option linter.unusedVariables false
set_option linter.unusedSimpArgs false
set_option linter.unnecessarySimpa false
set_option maxRecDepth 100000
namespace Go.Proofs.YtanighkpfmgnbaaGreatDoor
open Go Go.Fen
def E3x:List UInt8:=[48,49,50,51,52,53,54,55,56,57,97,98,99,100,101,102]
def A2q (m:Int):Nat→Nat→Bool
 | 0,_=>false
 | fu1+1,k=>(bif (decide ((k:Int)<8)) then (bif (decide (m=(([1,2,4,8,16,32,64,128]:List Int).getD k 0))) then true else A2q m fu1 (k+1)) else false)
def A8q (m:Int):Bool :=
 A2q m ((8 - 0)+1) 0
def X8 (c:Col):Int :=
 (bif (decide (c.kind=0)) then (bif (decide (c.n=0)) then 0 else 130) else (bif (decide (c.kind=1)) then (bif ((decide ((0:Int)≤c.n))&&(decide (c.n≤255))) then 0 else 130) else (bif (decide (c.kind=2)) then (bif ((decide ((0:Int)≤c.n))&&(decide (c.n≤16777215))) then 0 else 130) else 130)))
def V2 (a:Act) (is:Bool):Int :=
 (bif (((!decide (a.kind=39))||(!(decide (a.text=([]:List UInt8)))))||(!is)) then 141 else 0)
def A3i (a:Act) (t72:Bool):Int :=
 (bif t72 then V2 a ((decide (a.m=0))&&(decide ((X8 a.color)=0))) else V2 a false)
def P8 (a:Act):Int :=
 (bif (decide (a.n=0)) then V2 a ((decide (a.m=0))&&(decide (a.color=Col.zero))) else (bif (decide (a.n=1)) then V2 a ((A8q a.m)&&(decide (a.color=Col.zero))) else (bif (decide (a.n=2)) then V2 a (((decide (a.m=3))||(((A8q a.m)&&(!decide (a.m=1)))&&(!decide (a.m=2))))&&(decide (a.color=Col.zero))) else (bif (decide (a.n=3)) then V2 a (((decide ((0:Int)≤a.m))&&(decide (a.m≤5)))&&(decide (a.color=Col.zero))) else (bif (decide (a.n=4)) then A3i a (decide (a.n=4)) else (bif (decide (a.n=5)) then A3i a (decide (a.n=5)) else A3i a (decide (a.n=6))))))))
def D3q:Int×Int×Int :=
 (0,0,0)
abbrev zlo:List Int:=([0,0,128,2048,65536]:List Int)
abbrev zhi:List Int:=([0,127,2047,65535,1114111]:List Int)
def D2u:Bool×Bool :=
 (B5 D3q fun (y0:Int×Int×Int)=>(bif (decide (y0.2.2=0)) then (false,false) else (((decide ((if (zlo.getD ((y0.2.2).toNat) 0) > y0.1 then (zlo.getD ((y0.2.2).toNat) 0) else y0.1)≤(if (zhi.getD ((y0.2.2).toNat) 0)<y0.2.1 then (zhi.getD ((y0.2.2).toNat) 0) else y0.2.1)))&&(!((decide ((55296:Int)≤(if (zlo.getD ((y0.2.2).toNat) 0) > y0.1 then (zlo.getD ((y0.2.2).toNat) 0) else y0.1)))&&(decide ((if (zhi.getD ((y0.2.2).toNat) 0)<y0.2.1 then (zhi.getD ((y0.2.2).toNat) 0) else y0.2.1)≤57343))))),(((decide ((if (zlo.getD ((y0.2.2).toNat) 0) > y0.1 then (zlo.getD ((y0.2.2).toNat) 0) else y0.1)≤(if (zhi.getD ((y0.2.2).toNat) 0)<y0.2.1 then (zhi.getD ((y0.2.2).toNat) 0) else y0.2.1)))&&(!((decide ((55296:Int)≤(if (zlo.getD ((y0.2.2).toNat) 0) > y0.1 then (zlo.getD ((y0.2.2).toNat) 0) else y0.1)))&&(decide ((if (zhi.getD ((y0.2.2).toNat) 0)<y0.2.1 then (zhi.getD ((y0.2.2).toNat) 0) else y0.2.1)≤57343)))))&&(decide ((0:Int)=y0.2.2))))))
def D2n:Bool :=
 (B5 D2u fun (y5:Bool×Bool)=>true)
def K0 (b:UInt8):Int×Int :=
 (bif (decide ((b.toNat:Int)<128)) then (1,(b.toNat:Int)) else (bif ((decide ((192:Int)≤(b.toNat:Int)))&&(decide ((b.toNat:Int)<224))) then (2,((b.toNat:Int) - 192)) else (bif ((decide ((224:Int)≤(b.toNat:Int)))&&(decide ((b.toNat:Int)<240))) then (3,((b.toNat:Int) - 224)) else (bif ((decide ((240:Int)≤(b.toNat:Int)))&&(decide ((b.toNat:Int)<248))) then (4,((b.toNat:Int) - 240)) else (0,0)))))
def H1 (p:List UInt8) (y4:Int×Int):Nat→Int→Int→Nat→(Int×Int×Int)
 | 0,_,_,_=>(0,0,0)
 | fu1+1,low,high,i=>(bif (decide ((i:Int)<y4.1)) then (bif (decide ((i:Int)<(p.length:Int))) then (bif ((decide (((p.getD i 0).toNat:Int)<128))||(decide ((191:Int)<((p.getD i 0).toNat:Int)))) then (0,0,0) else H1 p y4 fu1 (IntKind.i64.wrap ((IntKind.i64.wrap (low * (64:Int)))+(((p.getD i 0).toNat:Int) - 128))) (IntKind.i64.wrap ((IntKind.i64.wrap ((IntKind.i64.wrap ((IntKind.i64.wrap (high * (64:Int)))+(63:Int))) - (63:Int)))+(((p.getD i 0).toNat:Int) - 128))) (i+1)) else H1 p y4 fu1 (IntKind.i64.wrap (low * (64:Int))) (IntKind.i64.wrap ((IntKind.i64.wrap (high * (64:Int)))+(63:Int))) (i+1)) else (bif (decide (y4.1<(p.length:Int))) then (0,0,0) else (low,high,y4.1)))
def R3 (p:List UInt8):Int×Int×Int :=
 (bif (decide ((p.length:Int)=0)) then (0,0,0) else (B5 (K0 (p.getD 0 0)) fun (y4:Int×Int)=>H1 p y4 ((y4.1 - (1:Int)).toNat+1) y4.2 y4.2 1))
def A0g (p:List UInt8):Bool×Bool :=
 (B5 (R3 p) fun (y1:Int×Int×Int)=>(bif (decide (y1.2.2=0)) then (false,false) else (((decide ((if (zlo.getD ((y1.2.2).toNat) 0) > y1.1 then (zlo.getD ((y1.2.2).toNat) 0) else y1.1)≤(if (zhi.getD ((y1.2.2).toNat) 0)<y1.2.1 then (zhi.getD ((y1.2.2).toNat) 0) else y1.2.1)))&&(!((decide ((55296:Int)≤(if (zlo.getD ((y1.2.2).toNat) 0) > y1.1 then (zlo.getD ((y1.2.2).toNat) 0) else y1.1)))&&(decide ((if (zhi.getD ((y1.2.2).toNat) 0)<y1.2.1 then (zhi.getD ((y1.2.2).toNat) 0) else y1.2.1)≤57343))))),(((decide ((if (zlo.getD ((y1.2.2).toNat) 0) > y1.1 then (zlo.getD ((y1.2.2).toNat) 0) else y1.1)≤(if (zhi.getD ((y1.2.2).toNat) 0)<y1.2.1 then (zhi.getD ((y1.2.2).toNat) 0) else y1.2.1)))&&(!((decide ((55296:Int)≤(if (zlo.getD ((y1.2.2).toNat) 0) > y1.1 then (zlo.getD ((y1.2.2).toNat) 0) else y1.1)))&&(decide ((if (zhi.getD ((y1.2.2).toNat) 0)<y1.2.1 then (zhi.getD ((y1.2.2).toNat) 0) else y1.2.1)≤57343)))))&&(decide ((p.length:Int)=y1.2.2))))))
def A7w (b:UInt8):List UInt8×List Int :=
 (B5 (A0g (([]:List UInt8)++([b]:List UInt8))) fun (y7:Bool×Bool)=>(bif y7.2 then (B5 (R3 (([]:List UInt8)++([b]:List UInt8))) fun (y1:Int×Int×Int)=>(([]:List UInt8),([y1.1]:List Int))) else (bif y7.1 then ((([]:List UInt8)++([b]:List UInt8)),([]:List Int)) else (([]:List UInt8),([65533]:List Int)))))
def B8j (b:UInt8):List UInt8×List Int :=
 (bif (!D2n) then A7w b else A7w b)
def A6z (p:List UInt8):Bool :=
 (B5 (A0g p) fun (y7:Bool×Bool)=>((decide ((p.length:Int)=0))||(y7.1&&(!y7.2))))
def A6q (b:UInt8) (pending1:List UInt8):List UInt8×List Int :=
 (B5 (A0g ((([]:List UInt8)++pending1)++([b]:List UInt8))) fun (y7:Bool×Bool)=>(bif y7.2 then (B5 (R3 ((([]:List UInt8)++pending1)++([b]:List UInt8))) fun (y1:Int×Int×Int)=>(([]:List UInt8),([y1.1]:List Int))) else (bif y7.1 then (((([]:List UInt8)++pending1)++([b]:List UInt8)),([]:List Int)) else (bif (decide ((pending1.length:Int)=0)) then (([]:List UInt8),([65533]:List Int)) else (B5 (B8j b) fun (y11:List UInt8×List Int)=>(y11.1,(([65533]:List Int)++y11.2)))))))
def B4t (pending:List UInt8) (b:UInt8):List UInt8×List Int :=
 (bif (!(A6z pending)) then A6q b ([]:List UInt8) else A6q b pending)
def C1l (pending:List UInt8):List Int :=
 (bif ((decide ((0:Int)<(pending.length:Int)))&&(A6z pending)) then ([65533]:List Int) else ([]:List Int))
def A4a:List UInt8→List Int→List UInt8→Nat→List Int
 | [],out,pending,i=>(B5 (C1l pending) fun (y33:List Int)=>(out++y33))
 | hd_l0::tl_l0,out,pending,i=>(B5 (B4t pending hd_l0) fun (y22:List UInt8×List Int)=>A4a tl_l0 (out++y22.2) y22.1 (i+1))
def B1q (s:List UInt8):List Int :=
 A4a s ([]:List Int) ([]:List UInt8) 0
def A2l (cp:Int):Bool :=
 (((decide ((0:Int)≤cp))&&(decide (cp≤1114111)))&&((decide (cp<55296))||(decide ((57343:Int)<cp))))
def V5 (cp:Int):Int :=
 (bif (decide (cp<128)) then 1 else (bif (decide (cp<2048)) then 2 else (bif (decide (cp<65536)) then 3 else 4)))
def X3 (cp1:Int):Nat→Int→List UInt8→Int→List UInt8
 | 0,_,_,_=>[]
 | fu1+1,cp2,b,i=>(bif (decide ((0:Int)<i)) then X3 cp1 fu1 (IntKind.i64.wrap (Int.tdiv cp2 64)) (b.set ((i).toNat) (by8 (IntKind.u8.wrap (128+(Int.tmod cp2 64))))) (i - 1) else (b.set 0 (by8 (IntKind.u8.wrap ((([0,0,192,224,240]:List Int).getD ((V5 cp1).toNat) 0)+cp2)))))
def A9g (cp1:Int):List UInt8 :=
 (bif (decide ((V5 cp1)=1)) then ([(by8 (IntKind.u8.wrap cp1))]:List UInt8) else X3 cp1 ((((V5 cp1) - 1) - (0:Int)).toNat+1) cp1 (List.replicate ((V5 cp1).toNat) (0:UInt8)) ((V5 cp1) - 1))
def B5w (cp:Int):List UInt8 :=
 (bif (!(A2l cp)) then A9g 65533 else A9g cp)
def A7t:List Int→List UInt8→Nat→List UInt8
 | [],s,i=>s
 | hd_l0::tl_l0,s,i=>(B5 (B5w hd_l0) fun (y15:List UInt8)=>A7t tl_l0 (s++y15) (i+1))
def B2x (codes:List Int):List UInt8 :=
 A7t codes ([]:List UInt8) 0
def A6t (s:List UInt8):Nat→List Int→Nat→Bool
 | 0,_,_=>false
 | fu1+1,l,i=>(bif (decide ((i:Int)<(l.length:Int))) then (bif ((decide ((l.getD i 0)<32))||((decide ((127:Int)≤(l.getD i 0)))&&(decide ((l.getD i 0)≤159)))) then false else A6t s fu1 l (i+1)) else (B5 (B2x l) fun (y47:List UInt8)=>(decide (y47=s))))
def A8m (s:List UInt8):Bool :=
 (bif (decide ((510:Int)<(s.length:Int))) then false else (B5 (B1q s) fun (y24:List Int)=>A6t s ((y24.length - 0)+1) y24 0))
def D2h (n:Int):Int :=
 (bif (decide (n<16)) then (([0,13434880,52480,13487360,238,13435085,52685,15066597,8355711,16711680,65280,16776960,6053119,16711935,65535,16777215]:List Int).getD ((n).toNat) 0) else (bif (decide ((232:Int)≤n)) then ((8+(10 * (n - 232))) * 65793) else ((((([0,95,135,175,215,255]:List Int).getD (((n - 16) / 36).toNat) 0) * 65536)+((([0,95,135,175,215,255]:List Int).getD ((((n - 16) / 6) % 6).toNat) 0) * 256))+(([0,95,135,175,215,255]:List Int).getD (((n - 16) % 6).toNat) 0))))
def C0z (c:Col):Int×Bool :=
 (bif ((!decide ((X8 c)=0))||(decide (c.kind=0))) then (0,false) else (bif (decide (c.kind=1)) then ((D2h c.n),true) else (c.n,true)))
theorem dv6:∀ k:Nat,k<6→1≤([1048576,65536,4096,256,16,1]:List Int).getD k 0∧([1048576,65536,4096,256,16,1]:List Int).getD k 0≤1048576
 | 0,_ | 1,_ | 2,_ | 3,_ | 4,_ | 5,_=>by decide
 | _+6,h=>by omega
def A1o (y8:Int×Bool):Nat→List UInt8→Nat→(List UInt8×Int)
 | 0,_,_=>([],0)
 | fu1+1,s,k=>(bif (decide ((k:Int)<6)) then A1o y8 fu1 (s++((E3x.drop (((y8.1 / (([1048576,65536,4096,256,16,1]:List Int).getD k 0)) % 16).toNat)).take ((((y8.1 / (([1048576,65536,4096,256,16,1]:List Int).getD k 0)) % 16).toNat+1) - (((y8.1 / (([1048576,65536,4096,256,16,1]:List Int).getD k 0)) % 16).toNat)))) (k+1) else ((((((([114,103,98,58]:List UInt8)++(s.take 2))++([47]:List UInt8))++((s.drop 2).take (4 - 2)))++([47]:List UInt8))++(s.drop 4)),0))
def A7p (c:Col):List UInt8×Int :=
 (bif (!decide ((X8 c)=0)) then (([]:List UInt8),130) else (B5 (C0z c) fun (y8:Int×Bool)=>(bif (!y8.2) then (([]:List UInt8),2) else A1o y8 ((6 - 0)+1) ([]:List UInt8) 0)))
def K6:Nat→Int→List UInt8
 | 0,_=>[]
 | fu+1,n=>(bif (decide (n<10)) then ([(by8 (IntKind.u8.wrap (IntKind.i64.wrap ((48:Int)+n))))]:List UInt8) else ((K6 fu (n / 10))++(K6 fu (n % 10))))
def A0b (s:List UInt8) (out:List UInt8) (bit:Nat) (ag_ref07_Bare_l3:List UInt8→Nat→List UInt8):Nat→Int→Nat→List UInt8
 | 0,_,_=>[]
 | fu3+1,n,k=>(bif (decide ((k:Int)<((bit:Int)+6))) then (bif (decide (((k:Int) / 8)<(s.length:Int))) then A0b s out bit ag_ref07_Bare_l3 fu3 ((2 * n)+((((s.getD (((k:Int) / 8).toNat) 0).toNat:Int) / (([128,64,32,16,8,4,2,1]:List Int).getD (((k:Int) % 8).toNat) 0)) % 2)) (k+1) else A0b s out bit ag_ref07_Bare_l3 fu3 ((2 * n)+0) (k+1)) else ag_ref07_Bare_l3 (out++([(C1q.getD ((n).toNat) 0)]:List UInt8)) (bit+6))
def A0d (s:List UInt8):Nat→List UInt8→Nat→List UInt8
 | 0,_,_=>[]
 | fu1+1,out,bit=>(bif (decide ((bit:Int)<(8 * (s.length:Int)))) then A0b s out bit (A0d s fu1) (((bit+6) - bit)+1) 0 bit else out)
def B8g (s:List UInt8):List UInt8 :=
 A0d s (((8 * (s.length:Int)) - (0:Int)).toNat+1) ([]:List UInt8) 0
def Y8:Nat→List UInt8→(List UInt8×Int)
 | 0,_=>([],0)
 | fu1+1,t=>(bif (!decide (((t.length:Int) % 4)=0)) then Y8 fu1 (t++([61]:List UInt8)) else (t,0))
def B4b (s:List UInt8):List UInt8×Int :=
 (bif (decide ((4096:Int)<(s.length:Int))) then (([]:List UInt8),3) else (B5 (B8g s) fun (y26:List UInt8)=>Y8 (((4 - y26.length % 4) % 4)+1) y26))
def O7 (a:Act):List UInt8×Int :=
 (bif ((decide (a={Act.zero with kind:=44,text:=a.text}))&&(A8m a.text)) then ((([50,59]:List UInt8)++a.text),0) else (bif ((((decide (a={Act.zero with kind:=45,n:=a.n,color:=a.color}))&&(decide ((0:Int)≤a.n)))&&(decide (a.n≤255)))&&(decide (a.color.kind=2))) then (B5 (A7p a.color) fun (y25:List UInt8×Int)=>(bif (decide (y25.2=0)) then ((((([52,59]:List UInt8)++(K6 (a.n.toNat+1) a.n))++([59]:List UInt8))++y25.1),0) else (([]:List UInt8),2))) else (bif ((decide (a={Act.zero with kind:=46,text:=a.text}))&&(decide ((a.text.length:Int)≤378))) then (B5 (B4b a.text) fun (y32:List UInt8×Int)=>((([53,50,59,99,59]:List UInt8)++y32.1),0)) else (([]:List UInt8),2))))
def B3r:List Ar2 :=
 ([(⟨768,879⟩:Ar2),(⟨1155,1161⟩:Ar2),(⟨1425,1469⟩:Ar2),(⟨1552,1562⟩:Ar2),(⟨1611,1631⟩:Ar2),(⟨6832,6911⟩:Ar2),(⟨7616,7679⟩:Ar2),(⟨8203,8207⟩:Ar2),(⟨8400,8447⟩:Ar2),(⟨65024,65039⟩:Ar2),(⟨65056,65071⟩:Ar2)]:List Ar2)
def B0z (cp:Int):List Ar2→Nat→Bool
 | [],i=>false
 | hd_l0::tl_l0,i=>(bif ((decide (hd_l0.a≤cp))&&(decide (cp≤hd_l0.b))) then true else B0z cp tl_l0 (i+1))
def A5g (l:List Ar2) (cp:Int):Bool :=
 B0z cp l 0
def B2k:List Ar2 :=
 ([(⟨4352,4447⟩:Ar2),(⟨11904,12350⟩:Ar2),(⟨12353,13311⟩:Ar2),(⟨13312,19903⟩:Ar2),(⟨19968,40959⟩:Ar2),(⟨40960,42191⟩:Ar2),(⟨44032,55203⟩:Ar2),(⟨63744,64255⟩:Ar2),(⟨65072,65135⟩:Ar2),(⟨65280,65376⟩:Ar2),(⟨65504,65510⟩:Ar2),(⟨127744,128591⟩:Ar2),(⟨128640,128767⟩:Ar2),(⟨129280,129535⟩:Ar2),(⟨131072,262141⟩:Ar2)]:List Ar2)
def B9m (cp:Int):Int :=
 (bif (((!(A2l cp))||(decide (cp<32)))||((decide ((127:Int)≤cp))&&(decide (cp<160)))) then (-1) else (B5 B3r fun (y40:List Ar2)=>(bif (A5g y40 cp) then 0 else (B5 B2k fun (y36:List Ar2)=>(bif (A5g y36 cp) then 2 else 1)))))
def Q7 (n:Int) (from_:Int) (to_:Int):Bool :=
 ((decide (from_≤n))&&(decide (n≤to_)))
def R5 (n:Int):Bool :=
 (Q7 n 1 9999)
def A1x (a:Act) (t155:Bool):Bool :=
 (bif t155 then ((Q7 a.n 0 9999)&&(Q7 a.m 0 1)) else (bif (decide (a.kind=38)) then ((Q7 a.n 0 9999)&&(Q7 a.m 0 9999)) else (bif (decide (a.kind=40)) then ((Q7 a.n 0 6)&&(decide (a.m=0))) else (bif (decide (a.kind=41)) then ((Q7 a.n 5 6)&&(decide (a.m=0))) else false))))
def L6 (a:Act) (t101:Bool):Bool :=
 (bif t101 then ((R5 a.n)&&(decide (a.m=0))) else (bif (decide (a.kind=26)) then ((Q7 a.n 0 3)&&(decide (a.m=0))) else (bif (decide (a.kind=27)) then ((Q7 a.n 0 2)&&(decide (a.m=0))) else (bif (decide (a.kind=35)) then (((decide (a.n=0))||(decide (a.n=3)))&&(decide (a.m=0))) else (bif (decide (a.kind=36)) then A1x a (decide (a.kind=36)) else (bif (decide (a.kind=37)) then A1x a (decide (a.kind=37)) else A1x a (decide (a.kind=43))))))))
def A1w (a:Act) (t90:Bool):Bool :=
 (bif t90 then ((Q7 a.n 0 1)&&(R5 a.m)) else (bif (decide (a.kind=22)) then L6 a (decide (a.kind=22)) else (bif (decide (a.kind=23)) then L6 a (decide (a.kind=23)) else (bif (decide (a.kind=24)) then L6 a (decide (a.kind=24)) else (bif (decide (a.kind=25)) then L6 a (decide (a.kind=25)) else (bif (decide (a.kind=28)) then L6 a (decide (a.kind=28)) else (bif (decide (a.kind=29)) then L6 a (decide (a.kind=29)) else (bif (decide (a.kind=30)) then L6 a (decide (a.kind=30)) else (bif (decide (a.kind=31)) then L6 a (decide (a.kind=31)) else (bif (decide (a.kind=32)) then L6 a (decide (a.kind=32)) else L6 a (decide (a.kind=34))))))))))))
def A0m (a:Act) (t38:Bool):Bool :=
 (bif t38 then ((Q7 a.n 0 1)&&(decide (a.m=0))) else (bif (decide (a.kind=17)) then ((Q7 a.n 0 3)&&(Q7 a.m 0 1)) else (bif (decide (a.kind=18)) then ((Q7 a.n 2 3)&&(decide (a.m=0))) else (bif (decide (a.kind=19)) then ((R5 a.n)&&(R5 a.m)) else (bif (decide (a.kind=20)) then ((Q7 a.n 0 3)&&(R5 a.m)) else (bif (decide (a.kind=21)) then A1w a (decide (a.kind=21)) else A1w a (decide (a.kind=33))))))))
def I7 (a:Act) (t16:Bool):Bool :=
 (bif t16 then ((decide (a.n=0))&&(decide (a.m=0))) else (bif (decide (a.kind=7)) then A0m a (decide (a.kind=7)) else (bif (decide (a.kind=14)) then A0m a (decide (a.kind=14)) else A0m a (decide (a.kind=42)))))
def X2 (a:Act):Bool :=
 (bif (decide (a.kind=1)) then ((decide ((0:Int)≤(B9m a.n)))&&(decide (a.m=0))) else (bif (decide (a.kind=2)) then I7 a (decide (a.kind=2)) else (bif (decide (a.kind=3)) then I7 a (decide (a.kind=3)) else (bif (decide (a.kind=4)) then I7 a (decide (a.kind=4)) else (bif (decide (a.kind=5)) then I7 a (decide (a.kind=5)) else (bif (decide (a.kind=6)) then I7 a (decide (a.kind=6)) else (bif (decide (a.kind=8)) then I7 a (decide (a.kind=8)) else (bif (decide (a.kind=9)) then I7 a (decide (a.kind=9)) else (bif (decide (a.kind=10)) then I7 a (decide (a.kind=10)) else (bif (decide (a.kind=11)) then I7 a (decide (a.kind=11)) else (bif (decide (a.kind=12)) then I7 a (decide (a.kind=12)) else (bif (decide (a.kind=13)) then I7 a (decide (a.kind=13)) else (bif (decide (a.kind=15)) then I7 a (decide (a.kind=15)) else I7 a (decide (a.kind=16)))))))))))))))
def A2b (a:Act) (t12:Bool):Bool :=
 (bif t12 then (B5 (O7 a) fun (y9:List UInt8×Int)=>(decide (y9.2=0))) else (((X2 a)&&(decide (a.color=Col.zero)))&&(decide (a.text=([]:List UInt8)))))
def P9 (a:Act):Bool :=
 (bif (decide (a.kind=39)) then (decide ((P8 a)=0)) else (bif (decide (a.kind=44)) then A2b a (decide (a.kind=44)) else (bif (decide (a.kind=45)) then A2b a (decide (a.kind=45)) else A2b a (decide (a.kind=46)))))
def D1p:List Ar3 :=
 ([(⟨1,1,22⟩:Ar3),(⟨2,2,22⟩:Ar3),(⟨3,4,23⟩:Ar3),(⟨5,8,25⟩:Ar3),(⟨7,16,27⟩:Ar3),(⟨8,32,28⟩:Ar3),(⟨9,64,29⟩:Ar3),(⟨53,128,55⟩:Ar3)]:List Ar3)
def B4l (a:Act):List Ar3→Nat→List Int
 | [],i=>(bif (decide (a.n=0)) then ([0]:List Int) else (bif ((decide (a.n=3))&&(decide (a.m=1))) then ([4]:List Int) else (bif ((decide (a.n=3))&&(decide (a.m=0))) then ([24]:List Int) else (bif (decide (a.n=3)) then ([4,a.m]:List Int) else (bif (decide (a.color.kind=0)) then ([(IntKind.i64.wrap ((IntKind.i64.wrap ((38:Int)+(IntKind.i64.wrap ((10:Int) * (IntKind.i64.wrap (a.n - (4:Int)))))))+(1:Int)))]:List Int) else (bif (decide (a.color.kind=2)) then ([(IntKind.i64.wrap ((38:Int)+(IntKind.i64.wrap ((10:Int) * (IntKind.i64.wrap (a.n - (4:Int))))))),2,(-1),(IntKind.i64.wrap (Int.tdiv a.color.n 65536)),(Int.tmod (IntKind.i64.wrap (Int.tdiv a.color.n 256)) 256),(Int.tmod a.color.n 256)]:List Int) else (bif ((!decide (a.n=6))&&(decide (a.color.n<8))) then ([(IntKind.i64.wrap ((IntKind.i64.wrap ((IntKind.i64.wrap ((38:Int)+(IntKind.i64.wrap ((10:Int) * (IntKind.i64.wrap (a.n - (4:Int))))))) - (8:Int)))+a.color.n))]:List Int) else (bif ((!decide (a.n=6))&&(decide (a.color.n<16))) then ([(IntKind.i64.wrap ((IntKind.i64.wrap ((IntKind.i64.wrap ((38:Int)+(IntKind.i64.wrap ((10:Int) * (IntKind.i64.wrap (a.n - (4:Int)))))))+(44:Int)))+a.color.n))]:List Int) else ([(IntKind.i64.wrap ((38:Int)+(IntKind.i64.wrap ((10:Int) * (IntKind.i64.wrap (a.n - (4:Int))))))),5,a.color.n]:List Int)))))))))
 | hd_l0::tl_l0,i=>(bif ((decide (a.n=1))&&(decide (a.m=hd_l0.b))) then ([hd_l0.a]:List Int) else (bif ((decide (a.n=2))&&((decide (a.m=hd_l0.b))||((decide (a.m=3))&&(decide ((i:Int)=0))))) then ([hd_l0.c]:List Int) else B4l a tl_l0 (i+1)))
def A3n (a:Act):List Int :=
 (B5 D1p fun (y43:List Ar3)=>B4l a y43 0)
def A1c (l:List Act):List Act→List (List Int)→Nat→(List (List Int)×Int)
 | [],out,i=>(bif (decide ((16:Int)<(l.length:Int))) then (([]:List (List Int)),3) else (out,0))
 | hd_l0::tl_l0,out,i=>(bif (!decide ((P8 hd_l0)=0)) then (([]:List (List Int)),141) else (B5 (A3n hd_l0) fun (y14:List Int)=>A1c l tl_l0 (out++([y14]:List (List Int))) (i+1)))
def B9s (l:List Act):List (List Int)×Int :=
 A1c l l ([]:List (List Int)) 0
def A6k (i:Nat) (ag_ref05_Check_l2:Nat→Int):List Int→Nat→Int
 | [],k=>ag_ref05_Check_l2 (i+1)
 | hd_l3::tl_l3,k=>(bif ((decide (hd_l3<(-1)))||(decide ((9999:Int)<hd_l3))) then 150 else A6k i ag_ref05_Check_l2 tl_l3 (k+1))
def A3q (l:List (List Int)):List (List Int)→Nat→Int
 | [],i=>(bif (((decide ((l.length:Int)=1))&&(decide (((l.getD 0 []).length:Int)=1)))&&(decide (((l.getD 0 []).getD 0 0)=(-1)))) then 150 else 0)
 | hd_l2::tl_l2,i=>(bif ((decide ((hd_l2.length:Int)<1))||(decide ((6:Int)<(hd_l2.length:Int)))) then 150 else A6k i (A3q l tl_l2) hd_l2 0)
def B4y (l:List (List Int)):Int :=
 (bif (decide ((16:Int)<(l.length:Int))) then 150 else A3q l l 0)
def A5k (l:List (List Int)) (i:Nat) (k:Nat) (ag_ref05_Print_l3:List UInt8→Nat→(List UInt8×Int)) (s3:List UInt8):List UInt8×Int :=
 (bif (decide ((0:Int)≤((l.getD i []).getD k 0))) then ag_ref05_Print_l3 (s3++(K6 (((l.getD i []).getD k 0).toNat+1) ((l.getD i []).getD k 0))) (k+1) else ag_ref05_Print_l3 s3 (k+1))
def A0t (l:List (List Int)) (i:Nat) (ag_ref05_Print_l2:List UInt8→Nat→(List UInt8×Int)):Nat→List UInt8→Nat→(List UInt8×Int)
 | 0,_,_=>([],0)
 | fu1+1,s2,k=>(bif (decide ((k:Int)<((l.getD i []).length:Int))) then (bif (decide ((0:Int)<(k:Int))) then A5k l i k (A0t l i ag_ref05_Print_l2 fu1) (s2++([58]:List UInt8)) else A5k l i k (A0t l i ag_ref05_Print_l2 fu1) s2) else ag_ref05_Print_l2 s2 (i+1))
def A6y (l:List (List Int)) (i:Nat) (ag_ref05_Print_l2:List UInt8→Nat→(List UInt8×Int)) (s1:List UInt8):List UInt8×Int :=
 A0t l i ag_ref05_Print_l2 (((l.getD i []).length - 0)+1) s1 0
def X9 (l:List (List Int)):List (List Int)→List UInt8→Nat→(List UInt8×Int)
 | [],s,i=>(s,0)
 | hd_l2::tl_l2,s,i=>(bif (decide ((0:Int)<(i:Int))) then A6y l i (X9 l tl_l2) (s++([59]:List UInt8)) else A6y l i (X9 l tl_l2) s)
def B1f (l:List (List Int)):List UInt8×Int :=
 (bif (!decide ((B4y l)=0)) then (([]:List UInt8),150) else X9 l l ([]:List UInt8) 0)
def A7i (l:List Act):List UInt8 :=
 (B5 (B9s l) fun (y46:List (List Int)×Int)=>(B5 (B1f y46.1) fun (y35:List UInt8×Int)=>((([27,91]:List UInt8)++y35.1)++([109]:List UInt8))))
def Y4 (s:List UInt8) (n:Int):List UInt8 :=
 ((s.drop ((n).toNat)).take (((n).toNat+1) - ((n).toNat)))
def B1l (a:Act):List UInt8 :=
 (bif (decide (a.kind=2)) then ([7]:List UInt8) else (bif (decide (a.kind=3)) then ([8]:List UInt8) else (bif (decide (a.kind=4)) then ([9]:List UInt8) else (bif (decide (a.kind=5)) then ([10]:List UInt8) else (bif (decide (a.kind=6)) then ([13]:List UInt8) else (bif (decide (a.kind=7)) then (B5 (Y4 ([15,14]:List UInt8) a.n) fun (y2:List UInt8)=>y2) else (bif (decide (a.kind=8)) then ([27,68]:List UInt8) else (bif (decide (a.kind=9)) then ([27,69]:List UInt8) else (bif (decide (a.kind=10)) then ([27,72]:List UInt8) else (bif (decide (a.kind=11)) then ([27,77]:List UInt8) else (bif (decide (a.kind=12)) then ([27,55]:List UInt8) else (bif (decide (a.kind=13)) then ([27,56]:List UInt8) else (bif (decide (a.kind=15)) then ([27,99]:List UInt8) else (bif (decide (a.kind=14)) then (B5 (Y4 ([62,61]:List UInt8) a.n) fun (y10:List UInt8)=>(([27]:List UInt8)++y10)) else (bif (decide (a.kind=16)) then ([27,35,56]:List UInt8) else (bif (decide (a.kind=17)) then (B5 (Y4 ([40,41,42,43]:List UInt8) a.n) fun (y19:List UInt8)=>(B5 (Y4 ([66,48]:List UInt8) a.m) fun (y16:List UInt8)=>((([27]:List UInt8)++y19)++y16))) else (bif (decide (a.kind=18)) then (B5 (Y4 ([78,79]:List UInt8) (a.n - 2)) fun (y45:List UInt8)=>(([27]:List UInt8)++y45)) else ([]:List UInt8))))))))))))))))))
def O0 (n:Int) (none_:Int):List UInt8 :=
 (bif (decide (n=none_)) then ([]:List UInt8) else (K6 (n.toNat+1) n))
def A4k (n:Int) (m:Int) (none_:Int):List UInt8 :=
 (bif (decide (m=none_)) then (B5 (O0 n none_) fun (y3:List UInt8)=>y3) else (B5 (O0 n none_) fun (y18:List UInt8)=>(B5 (O0 m none_) fun (y17:List UInt8)=>((y18++([59]:List UInt8))++y17))))
def A4d (a:Act):Nat→Nat→List UInt8
 | 0,_=>[]
 | fu1+1,i=>(bif (decide ((i:Int)<10)) then (bif (decide (a.kind=(([22,23,24,25,28,29,30,31,32,34]:List Int).getD i 0))) then (B5 (O0 a.n 1) fun (y37:List UInt8)=>(B5 (Y4 ([71,100,73,90,64,80,88,76,77,98]:List UInt8) (i:Int)) fun (y16:List UInt8)=>(y37++y16))) else A4d a fu1 (i+1)) else ([]:List UInt8))
def B7a (a:Act):List UInt8 :=
 (bif (decide (a.kind=20)) then (B5 (O0 a.m 1) fun (y3:List UInt8)=>(B5 (Y4 ([65,66,67,68]:List UInt8) a.n) fun (y2:List UInt8)=>(y3++y2))) else (bif (decide (a.kind=21)) then (B5 (O0 a.m 1) fun (y18:List UInt8)=>(B5 (Y4 ([69,70]:List UInt8) a.n) fun (y10:List UInt8)=>(y18++y10))) else (bif (decide (a.kind=33)) then (B5 (O0 a.m 1) fun (y17:List UInt8)=>(B5 (Y4 ([83,84]:List UInt8) a.n) fun (y19:List UInt8)=>(y17++y19))) else (bif (decide (a.kind=26)) then (B5 (O0 a.n 0) fun (y44:List UInt8)=>(y44++([74]:List UInt8))) else (bif (decide (a.kind=27)) then (B5 (O0 a.n 0) fun (y38:List UInt8)=>(y38++([75]:List UInt8))) else (bif (decide (a.kind=35)) then (B5 (O0 a.n 0) fun (y27:List UInt8)=>(y27++([103]:List UInt8))) else (bif (decide (a.kind=40)) then (B5 (O0 a.n 0) fun (y42:List UInt8)=>(y42++([32,113]:List UInt8))) else A4d a ((10 - 0)+1) 0)))))))
def B1g (a:Act):List UInt8 :=
 (bif (decide (a.kind=19)) then (B5 (A4k a.n a.m 1) fun (y20:List UInt8)=>(y20++([72]:List UInt8))) else (bif (decide (a.kind=38)) then (B5 (A4k a.n a.m 0) fun (y48:List UInt8)=>(y48++([114]:List UInt8))) else (bif (decide (a.kind=36)) then (B5 (Y4 ([108,104]:List UInt8) a.m) fun (y2:List UInt8)=>((K6 (a.n.toNat+1) a.n)++y2)) else (bif (decide (a.kind=37)) then (B5 (Y4 ([108,104]:List UInt8) a.m) fun (y10:List UInt8)=>((([63]:List UInt8)++(K6 (a.n.toNat+1) a.n))++y10)) else (bif (decide (a.kind=41)) then ((K6 (a.n.toNat+1) a.n)++([110]:List UInt8)) else (bif (decide (a.kind=42)) then ((([([]:List UInt8),([62]:List UInt8)]:List (List UInt8)).getD ((a.n).toNat) [])++([99]:List UInt8)) else (bif (decide (a.kind=43)) then (((([([]:List UInt8),([63]:List UInt8)]:List (List UInt8)).getD ((a.m).toNat) [])++(K6 (a.n.toNat+1) a.n))++([36,112]:List UInt8)) else (B5 (B7a a) fun (y39:List UInt8)=>y39))))))))
def A6a (a:Act):List UInt8 :=
 (bif (decide (a.kind=1)) then (B5 (B5w a.n) fun (y15:List UInt8)=>y15) else (bif (decide (a.kind=44)) then (bif (decide (a.kind=44)) then (B5 (O7 a) fun (y9:List UInt8×Int)=>(((([27,93]:List UInt8)++y9.1)++([27]:List UInt8))++([92]:List UInt8))) else (bif (decide (a.kind=39)) then (B5 (A7i ([a]:List Act)) fun (y13:List UInt8)=>y13) else (B5 (B1l a) fun (y6:List UInt8)=>(bif (!(decide (y6=([]:List UInt8)))) then y6 else (B5 (B1g a) fun (y12:List UInt8)=>(([27,91]:List UInt8)++y12)))))) else (bif (decide (a.kind=45)) then (bif (decide (a.kind=45)) then (B5 (O7 a) fun (y34:List UInt8×Int)=>(((([27,93]:List UInt8)++y34.1)++([27]:List UInt8))++([92]:List UInt8))) else (bif (decide (a.kind=39)) then (B5 (A7i ([a]:List Act)) fun (y31:List UInt8)=>y31) else (B5 (B1l a) fun (y21:List UInt8)=>(bif (!(decide (y21=([]:List UInt8)))) then y21 else (B5 (B1g a) fun (y28:List UInt8)=>(([27,91]:List UInt8)++y28)))))) else (bif (decide (a.kind=46)) then (B5 (O7 a) fun (y29:List UInt8×Int)=>(((([27,93]:List UInt8)++y29.1)++([27]:List UInt8))++([92]:List UInt8))) else (bif (decide (a.kind=39)) then (B5 (A7i ([a]:List Act)) fun (y41:List UInt8)=>y41) else (B5 (B1l a) fun (y23:List UInt8)=>(bif (!(decide (y23=([]:List UInt8)))) then y23 else (B5 (B1g a) fun (y30:List UInt8)=>(([27,91]:List UInt8)++y30)))))))))
end Go.Proofs.YtanighkpfmgnbaaGreatDoor
